import PyProof.Rows.All
import Wide.All
import OpenK.AllK
import Wide.FinOn
import HandS.ForMost
import HandS.ForExc
import HandS.EndTab
import HandS.HotCalls
import KE.KDictKeyed
import KE.SortData
import HandS.TupLe
import HandS.TupAny
import HandS.TupMul
import HandS.Wide
import HandS.Deep
import HandS.IsInst
import KE.DataCmp
import HandS.Conv
import HandS.Rev
import KE.DataMinMax
import KE.GoesEnum
import HandS.ExcOwn
import HandS.Defaults
import HandS.HeadHook4
import HandS.HeadWalk
import HandS.Head2
import HandS.List
import HandS.TupSets
import HandS.Text
import HandS.ExcIs
import HandS.Lambda
import HandS.ExcCtx
import PySem.Challenge.RW_stairsearch_k16_whole_ranks
set_option Elab.async false
set_option linter.all false
set_option maxRecDepth 100000
set_option maxHeartbeats 0
namespace Dm
open PySem PySem.Spec PyProof.Rows L2 LamX
/-! ### data, slots -/
abbrev St := L2.St
abbrev D := PyData
inductive Exn where
  | table | number | size | story | place | count | numbering | answer | text | clash | found | toolong | toolarge | nothing
  deriving DecidableEq
def Exn.cname : Exn → Str
  | .table => "InvalidTable" | .number => "InvalidNumber" | .size => "InvalidSize" | .story => "InvalidStory" | .place => "InvalidPlace"
  | .count => "InvalidCount" | .numbering => "InvalidNumbering" | .answer => "InvalidAnswer" | .text => "InvalidText" | .clash => "Clash"
  | .found => "Found" | .toolong => "TooLong" | .toolarge => "TooLarge" | .nothing => "NothingToUndo"
inductive Sl where
  | un
  | val (d : D)
  | own (fx : Bool) (xs : List D)
  | dic (fx : Bool) (kvs : List (NestedKey × D))
  | ins (fx : Bool) (fs : List (Str × D))
  | scr (ns : List Int)
def Sl.isO : Sl → Bool
  | .un => false
  | .val _ => false
  | .scr _ => false
  | _ => true
def Sl.fx : Sl → Bool
  | .own f _ => f
  | .dic f _ => f
  | .ins f _ => f
  | _ => false
abbrev Rho := List Sl
inductive Res (α : Type) where
  | ok (a : α) (ρ : Rho)
  | exc (c : Exn) (ρ : Rho)
  | bad
def Res.bind {α β : Type} (r : Res α) (f : α → Rho → Res β) : Res β := match r with
  | .ok a ρ => f a ρ
  | .exc c ρ => .exc c ρ
  | .bad => .bad
@[simp] theorem Res.bind_ok {α β : Type} (a : α) (ρ : Rho) (f : α → Rho → Res β) : (Res.ok a ρ).bind f = f a ρ := rfl
@[simp] theorem Res.bind_exc {α β : Type} (c : Exn) (ρ : Rho) (f : α → Rho → Res β) : (Res.exc c ρ : Res α).bind f = .exc c ρ := rfl
@[simp] theorem Res.bind_bad {α β : Type} (f : α → Rho → Res β) : (Res.bad : Res α).bind f = .bad := rfl
def lift {α : Type} (o : Option α) (ρ : Rho) : Res α := match o with
  | some d => .ok d ρ
  | none => .bad
@[simp] theorem lift_some {α : Type} (d : α) (ρ : Rho) : lift (some d) ρ = .ok d ρ := rfl
@[simp] theorem lift_none {α : Type} (ρ : Rho) : lift (none : Option α) ρ = .bad := rfl

/-! ### what stands in the heap for a datum -/
structure StrOk (x : Str) : Prop where
  all : x.cps.all (· < 0x110000) = true
  len : x.length ≤ sizeLine
def KL (K : PySem.W.Frag) (a : Addr) (xs : List V) : Prop := ∃ (o : Obj) (its : Array Value) (n : Nat), K.lookup a = some o ∧ o.cls = .type "list" ∧ o.dict = none ∧ o.data = .seq its n ∧ its.size ≤ sizeLine ∧ Vals xs its.toList
def KT (K : PySem.W.Frag) (a : Addr) (xs : List V) : Prop := ∃ (o : Obj) (its : Array Value) (n : Nat), K.lookup a = some o ∧ o.cls = .type "tuple" ∧ o.data = .seq its n ∧ its.size ≤ sizeLine ∧ Vals xs its.toList
abbrev AP := Addr → Prop
def SL (K : PySem.W.Frag) (W : AP) (H : Hp) (a : Addr) (xs : List V) : Prop := (¬ W a ∧ Rd H a (.lst xs)) ∨ KL K a xs
def STp (K : PySem.W.Frag) (W : AP) (H : Hp) (a : Addr) (xs : List V) : Prop := (¬ W a ∧ Rd H a (.tup xs)) ∨ KT K a xs
theorem SL.sq {K W H a xs} (h : SL K W H a xs) : SqL K H a xs := h.elim (fun z => .inl z.2) .inr
theorem STp.sq {K W H a xs} (h : STp K W H a xs) : SqT K H a xs := h.elim (fun z => .inl z.2) .inr
mutual
inductive Rp (K : PySem.W.Frag) (W : AP) (H : Hp) : V → D → Prop
  | non : Rp K W H .non .none
  | bl (b : Bool) : Rp K W H (.bl b) (.bool b)
  | int (i : Int) : Rp K W H (.int i) (.int i)
  | str (x : Str) (h : StrOk x) : Rp K W H (.str x) (.str x)
  | lst {a : Addr} {xs : List V} {ds : List D} : ¬ W a → H a = some (.lst xs) → Rps K W H xs ds → Rp K W H (.ref a) (.list ds)
  | tup {a : Addr} {xs : List V} {ds : List D} : STp K W H a xs → Rps K W H xs ds → Rp K W H (.ref a) (.tuple ds)
inductive Rps (K : PySem.W.Frag) (W : AP) (H : Hp) : List V → List D → Prop
  | nil : Rps K W H [] []
  | cons {v : V} {vs : List V} {d : D} {ds : List D} : Rp K W H v d → Rps K W H vs ds → Rps K W H (v :: vs) (d :: ds)
end
/-- what W spares in H stands in H', spared by W' -/
def Kp (W : AP) (H : Hp) (W' : AP) (H' : Hp) : Prop := ∀ a u, H a = some u → ¬ W a → (∀ ps, u ≠ .tbl ps) → H' a = some u ∧ ¬ W' a
theorem Kp.refl (W : AP) (H : Hp) : Kp W H W H := fun _ _ h n _ => ⟨h, n⟩
theorem Kp.trans {W H W1 H1 W2 H2} (a : Kp W H W1 H1) (b : Kp W1 H1 W2 H2) : Kp W H W2 H2 := fun x u h n t => b x u (a x u h n t).1 (a x u h n t).2 t
theorem Kp.less {W W' : AP} {H : Hp} (h : ∀ a, W' a → W a) : Kp W H W' H := fun a _ e n _ => ⟨e, fun z => n (h a z)⟩
theorem Kp.ex {W : AP} {H H' : Hp} (e : ∀ a o, H a = some o → H' a = some o) : Kp W H W H' := fun a u h n _ => ⟨e a u h, n⟩
theorem Rd.kp {W H W' H'} {a : Addr} {u : HO} (k : Kp W H W' H') (n : ¬ W a) (r : Rd H a u) (t : ∀ ps, u ≠ .tbl ps) : Rd H' a u ∧ ¬ W' a := by
  rcases r with r | ⟨o, r⟩
  · exact ⟨.inl (k a _ r n t).1, (k a _ r n t).2⟩
  · exact ⟨.inr ⟨o, (k a _ r n (fun ps z => nomatch z)).1⟩, (k a _ r n (fun ps z => nomatch z)).2⟩
theorem SL.kp {K W H W' H' a xs} (k : Kp W H W' H') (h : SL K W H a xs) : SL K W' H' a xs := by
  rcases h with ⟨n, r⟩ | h
  · obtain ⟨h1, h2⟩ := Rd.kp k n r (fun ps z => nomatch z)
    exact .inl ⟨h2, h1⟩
  · exact .inr h
theorem STp.kp {K W H W' H' a xs} (k : Kp W H W' H') (h : STp K W H a xs) : STp K W' H' a xs := by
  rcases h with ⟨n, r⟩ | h
  · obtain ⟨h1, h2⟩ := Rd.kp k n r (fun ps z => nomatch z)
    exact .inl ⟨h2, h1⟩
  · exact .inr h
mutual
theorem Rp.kp {K W H W' H'} (k : Kp W H W' H') : ∀ {v : V} {d : D}, Rp K W H v d → Rp K W' H' v d
  | _, _, .non => .non
  | _, _, .bl b => .bl b
  | _, _, .int i => .int i
  | _, _, .str x h => .str x h
  | _, _, .lst n h r => .lst (k _ _ h n (fun ps z => nomatch z)).2 (k _ _ h n (fun ps z => nomatch z)).1 (Rps.kp k r)
  | _, _, .tup h r => .tup (h.kp k) (Rps.kp k r)
theorem Rps.kp {K W H W' H'} (k : Kp W H W' H') : ∀ {vs : List V} {ds : List D}, Rps K W H vs ds → Rps K W' H' vs ds
  | _, _, .nil => .nil
  | _, _, .cons a b => .cons (Rp.kp k a) (Rps.kp k b)
end
mutual
theorem Rp.dp {K W H} : ∀ {v : V} {d : D}, Rp K W H v d → Dp K H v d
  | _, _, .non => .non
  | _, _, .bl b => .bl b
  | _, _, .int i => .int i
  | _, _, .str x _ => .str x
  | _, _, .lst _ h r => .lst (SqL.of h) (Rps.dp r)
  | _, _, .tup h r => .tup h.sq (Rps.dp r)
theorem Rps.dp {K W H} : ∀ {vs : List V} {ds : List D}, Rps K W H vs ds → DpAll K H vs ds
  | _, _, .nil => .nil
  | _, _, .cons a b => .cons (Rp.dp a) (Rps.dp b)
end
section
variable {K : PySem.W.Frag} {W : AP} {H : Hp}
theorem Rps.length : ∀ {vs : List V} {ds : List D}, Rps K W H vs ds → vs.length = ds.length
  | _, _, .nil => rfl
  | _, _, .cons _ b => by simp [Rps.length b]
theorem Rps.get : ∀ {vs : List V} {ds : List D} {i : Nat} {d : D}, Rps K W H vs ds → ds[i]? = some d → ∃ v, vs[i]? = some v ∧ Rp K W H v d
  | _, _, _, _, .nil, e => by simp at e
  | _, _, 0, _, .cons a _, e => by simp at e; subst e; exact ⟨_, rfl, a⟩
  | _, _, i + 1, d, .cons _ b, e => by
    obtain ⟨v, h1, h2⟩ := Rps.get (i := i) (d := d) b (by simpa using e)
    exact ⟨v, by simpa using h1, h2⟩
theorem Rps.getV : ∀ {vs : List V} {ds : List D} {i : Nat} {v : V}, Rps K W H vs ds → vs[i]? = some v → ∃ d, ds[i]? = some d ∧ Rp K W H v d
  | _, _, _, _, .nil, e => by simp at e
  | _, _, 0, _, .cons a _, e => by simp at e; subst e; exact ⟨_, rfl, a⟩
  | _, _, i + 1, d, .cons _ b, e => by
    obtain ⟨v, h1, h2⟩ := Rps.getV (i := i) b (by simpa using e)
    exact ⟨v, by simpa using h1, h2⟩
theorem Rps.append : ∀ {vs ws : List V} {ds es : List D}, Rps K W H vs ds → Rps K W H ws es → Rps K W H (vs ++ ws) (ds ++ es)
  | _, _, _, _, .nil, s => s
  | _, _, _, _, .cons a b, s => .cons a (Rps.append b s)
theorem Rps.take : ∀ {vs : List V} {ds : List D} (n : Nat), Rps K W H vs ds → Rps K W H (vs.take n) (ds.take n)
  | _, _, 0, _ => .nil
  | _, _, _ + 1, .nil => .nil
  | _, _, n + 1, .cons a b => .cons a (Rps.take n b)
theorem Rps.drop : ∀ {vs : List V} {ds : List D} (n : Nat), Rps K W H vs ds → Rps K W H (vs.drop n) (ds.drop n)
  | _, _, 0, r => r
  | _, _, _ + 1, .nil => .nil
  | _, _, n + 1, .cons _ b => Rps.drop n b
theorem Rps.set {v : V} {d : D} (r : Rp K W H v d) : ∀ {vs : List V} {ds : List D} (i : Nat), Rps K W H vs ds → Rps K W H (vs.set i v) (ds.set i d)
  | _, _, _, .nil => .nil
  | _, _, 0, .cons _ b => .cons r b
  | _, _, i + 1, .cons a b => .cons a (Rps.set r i b)
theorem Rps.reverse {vs : List V} {ds : List D} (h : Rps K W H vs ds) : Rps K W H vs.reverse ds.reverse := by
  induction h using Rps.rec (motive_1 := fun _ _ _ => True) with
  | nil => exact .nil
  | cons a b _ ih => rw [List.reverse_cons, List.reverse_cons]; exact ih.append (.cons a .nil)
  | _ => trivial
theorem Rp.inv_int {v : V} {i : Int} (h : Rp K W H v (.int i)) : v = .int i := by cases h; rfl
theorem Rp.inv_bl {v : V} {b : Bool} (h : Rp K W H v (.bool b)) : v = .bl b := by cases h; rfl
theorem Rp.inv_str {v : V} {x : Str} (h : Rp K W H v (.str x)) : v = .str x := by cases h; rfl
theorem Rp.inv_non {v : V} (h : Rp K W H v .none) : v = .non := by cases h; rfl
theorem Rp.inv_tup {v : V} {ds : List D} (h : Rp K W H v (.tuple ds)) : ∃ a xs, v = .ref a ∧ STp K W H a xs ∧ Rps K W H xs ds := by cases h with | tup h r => exact ⟨_, _, rfl, h, r⟩
theorem Rp.inv_lst {v : V} {ds : List D} (h : Rp K W H v (.list ds)) : ∃ a xs, v = .ref a ∧ ¬ W a ∧ H a = some (.lst xs) ∧ Rps K W H xs ds := by cases h with | lst n h r => exact ⟨_, _, rfl, n, h, r⟩
theorem Rps.ints : ∀ {vs : List V} {ns : List Int}, Rps K W H vs (ns.map PyData.int) → vs = ns.map V.int
  | [], [], _ => rfl
  | _ :: _, [], h => by cases h
  | [], _ :: _, h => by cases h
  | v :: vs, n :: ns, .cons a b => by
    have e := Rp.inv_int a
    rw [List.map_cons, Rps.ints b, e]
theorem Rps.bls : ∀ {vs : List V} {ns : List Bool}, Rps K W H vs (ns.map PyData.bool) → vs = ns.map V.bl
  | [], [], _ => rfl
  | _ :: _, [], h => by cases h
  | [], _ :: _, h => by cases h
  | v :: vs, n :: ns, .cons a b => by
    have e := Rp.inv_bl a
    rw [List.map_cons, Rps.bls b, e]
theorem Rps.strs : ∀ {vs : List V} {ns : List Str}, Rps K W H vs (ns.map PyData.str) → vs = ns.map V.str
  | [], [], _ => rfl
  | _ :: _, [], h => by cases h
  | [], _ :: _, h => by cases h
  | v :: vs, n :: ns, .cons a b => by
    have e := Rp.inv_str a
    rw [List.map_cons, Rps.strs b, e]
theorem Rps.ofInts : ∀ ns : List Int, Rps K W H (ns.map V.int) (ns.map PyData.int)
  | [] => .nil
  | n :: ns => .cons (.int n) (Rps.ofInts ns)
theorem Rps.ofStrs : ∀ ns : List Str, (∀ x ∈ ns, StrOk x) → Rps K W H (ns.map V.str) (ns.map PyData.str)
  | [], _ => .nil
  | n :: ns, h => .cons (.str n (h n List.mem_cons_self)) (Rps.ofStrs ns fun x hx => h x (List.mem_cons_of_mem _ hx))
mutual
theorem Rp.can : ∀ {v : V} {d : D}, Rp K W H v d → d.canLay0 = true
  | _, _, .non => rfl
  | _, _, .bl b => rfl
  | _, _, .int i => rfl
  | _, _, .str x h => h.all
  | _, _, .lst _ _ r => Rps.can r
  | _, _, .tup _ r => Rps.can r
theorem Rps.can : ∀ {vs : List V} {ds : List D}, Rps K W H vs ds → PyData.canLayAll0 ds = true
  | _, _, .nil => rfl
  | _, _, .cons a b => by
    unfold PyData.canLayAll0
    rw [Rp.can a, Rps.can b] <;> rfl
end
end

/-! ### the frame -/
structure Cxt where
  T : List (Addr × Str)
  exa : Exn → Addr
  cls : Addr
/-- a dict: its entries' keys, the addresses of their tuples, their values (no references) -/
def DicH (P : Program) (w : World) (p : Addr) (xs : List (NestedKey × Addr × V)) (h : Heap) : Prop := ∃ o es ep ys, h.get? p = some o ∧ o.ExactDict ∧ o.data = .dict es ep ∧ es.toList = ys.map (entryOfKey (nestedKind P w)) ∧
  Paired (fun (x : NestedKey × Addr × V) (y : NestedKey × Addr × Value) => x.1 = y.1 ∧ x.2.1 = y.2.1 ∧ RelV x.2.2 y.2.2) xs ys
def dicO (P : Program) (w : World) (p : Addr) (xs : List (NestedKey × Addr × V)) : HO := .ext (DicH P w p xs)
mutual
def keyOf : D → Option NestedKey
  | .none => some .none
  | .bool b => some (.num (if b then 1 else 0))
  | .int i => some (.num i)
  | .str x => some (.text x)
  | .tuple ds => (keysOf ds).map .tup
  | .list _ => none
  | .dict _ => none
def keysOf : List D → Option (List NestedKey)
  | [] => some []
  | d :: ds => match keyOf d, keysOf ds with
    | some k, some ks => some (k :: ks)
    | _, _ => none
end
/-- a scalar of a dict -/
inductive RpV : V → D → Prop
  | int (i : Int) : RpV (.int i) (.int i)
  | bl (b : Bool) : RpV (.bl b) (.bool b)
def DicAt (P : Program) (w : World) (K : PySem.W.Frag) (W : AP) (H : Hp) (p : Addr) (kvs : List (NestedKey × D)) : Prop :=
  ∃ xs : List (NestedKey × Addr × V), H p = some (dicO P w p xs) ∧ (p == sysModules) = false ∧ kvs.length ≤ 1000000 ∧ (kvs.map (·.1)).Nodup ∧
    Paired (fun (x : NestedKey × Addr × V) (y : NestedKey × D) => x.1 = y.1 ∧ RpV x.2.2 y.2 ∧ x.1.depth ≤ 8 ∧ ∃ d, Rp K W H (.ref x.2.1) d ∧ keyOf d = some x.1) xs kvs
def OwnAt (σ : St) (ρ : Rho) (i : Nat) (a : Addr) : Prop := ∃ s, ρ[i]? = some s ∧ s.isO = true ∧ σ[i]? = some (some (V.ref a))
def Own (σ : St) (ρ : Rho) (a : Addr) : Prop := ∃ i, OwnAt σ ρ i a
def Wd (U : AP) (σ : St) (ρ : Rho) : AP := fun a => U a ∨ Own σ ρ a
def FldsOk (K : PySem.W.Frag) (W : AP) (H : Hp) (vs : List (Str × V)) (fs : List (Str × D)) : Prop := Paired (fun (v : Str × V) (d : Str × D) => v.1 = d.1 ∧ Rp K W H v.2 d.2) vs fs
section
variable (P : Program) (w : World) (K : PySem.W.Frag) (C : Cxt) (pa : Nat → Addr)
def SlOk (W : AP) (H : Hp) (i : Nat) (x : Option (Option V)) : Sl → Prop
  | .un => True
  | .val d => ∃ v, x = some (some v) ∧ Rp K W H v d
  | .own fx ds => ∃ p vs, x = some (some (.ref p)) ∧ (fx = true → p = pa i) ∧ H p = some (.lst vs) ∧ Rps K W H vs ds
  | .dic fx kvs => ∃ p, x = some (some (.ref p)) ∧ (fx = true → p = pa i) ∧ DicAt P w K W H p kvs
  | .ins fx fs => ∃ p dx vs, x = some (some (.ref p)) ∧ (fx = true → p = pa i) ∧ H p = some (.ins C.cls dx vs) ∧ fs.length < 1000 ∧ FldsOk K W H vs fs
  | .scr ns => ∃ a, x = some (some (.ref a)) ∧ SL K W H a (ns.map V.int)
structure R (U : AP) (σ : St) (H : Hp) (ρ : Rho) : Prop where
  len : σ.length = ρ.length
  dom : ∀ a, U a → H a ≠ none
  tabs : Tabs C.T H
  out : ∀ a, Own σ ρ a → ¬ U a
  apart : ∀ i j a, OwnAt σ ρ i a → OwnAt σ ρ j a → i = j
  slot : ∀ i s, ρ[i]? = some s → SlOk P w K C pa (Wd U σ ρ) H i σ[i]? s
structure Gr (M : AP) (H H' : Hp) : Prop where
  keep : ∀ a o, H a = some o → ¬ M a → (∀ ps, o ≠ .tbl ps) → H' a = some o
  dom : ∀ a, H a ≠ none → H' a ≠ none
end
theorem Gr.refl {M : AP} (H : Hp) : Gr M H H := ⟨fun _ _ h _ _ => h, fun _ h => h⟩
theorem Gr.ex {M : AP} {H H' : Hp} (e : ∀ a o, H a = some o → H' a = some o) : Gr M H H' := ⟨fun a o h _ _ => e a o h, fun a h z => by
  cases q : H a with
  | none => exact h q
  | some u => rw [e a u q] at z; cases z⟩
theorem Gr.trans {M M1 : AP} {H H1 H2 : Hp} (a : Gr M H H1) (b : Gr M1 H1 H2) (h : ∀ x, M1 x → M x ∨ H x = none) : Gr M H H2 :=
  ⟨fun x o e n t => b.keep x o (a.keep x o e n t) (fun z => (h x z).elim n fun q => by rw [e] at q; cases q) t, fun x e => b.dom x (a.dom x e)⟩
section
variable {P : Program} {w : World} {K : PySem.W.Frag} {C : Cxt} {pa : Nat → Addr} {U : AP}
/-- a step from one frame to another -/
structure Sq (P : Program) (w : World) (K : PySem.W.Frag) (C : Cxt) (pa : Nat → Addr) (U : AP) (σ : St) (H : Hp) (ρ : Rho) (σ' : St) (H' : Hp) (ρ' : Rho) : Prop where
  r : R P w K C pa U σ' H' ρ'
  gr : Gr (Own σ ρ) H H'
  sub : ∀ a, Own σ' ρ' a → Own σ ρ a ∨ H a = none
variable {σ σ1 σ2 : St} {H H1 H2 : Hp} {ρ ρ1 ρ2 : Rho}
theorem Sq.refl (r : R P w K C pa U σ H ρ) : Sq P w K C pa U σ H ρ σ H ρ := ⟨r, Gr.refl H, fun _ h => .inl h⟩
theorem Sq.trans (a : Sq P w K C pa U σ H ρ σ1 H1 ρ1) (b : Sq P w K C pa U σ1 H1 ρ1 σ2 H2 ρ2) : Sq P w K C pa U σ H ρ σ2 H2 ρ2 :=
  ⟨b.r, a.gr.trans b.gr a.sub, fun x h => (b.sub x h).elim (a.sub x) fun z => by
    cases q : H x with
    | none => exact .inr rfl
    | some u => exact absurd z (a.gr.dom x (by rw [q]; simp))⟩
theorem Sq.kp (a : Sq P w K C pa U σ H ρ σ1 H1 ρ1) : Kp (Wd U σ ρ) H (Wd U σ1 ρ1) H1 := fun x u h n t =>
  ⟨a.gr.keep x u h (fun z => n (.inr z)) t, fun z => z.elim (fun z => n (.inl z)) fun z => (a.sub x z).elim (fun z => n (.inr z)) fun z => by rw [h] at z; cases z⟩
/-- the tables stand while a tracked thing that is neither table nor code is written -/
theorem tabs_upd {T : List (Addr × Str)} {H : Hp} {p : Addr} {o o' : HO} (t : Tabs T H) (hp : H p = some o) (n1 : ∀ ps, o ≠ .tbl ps) (n2 : ∀ q, o ≠ CodeO p q) : Tabs T (upd H p o') := fun q hq => by
  obtain ⟨ps, h1, h2, h3⟩ := t q hq
  refine ⟨ps, ?_, h2, fun pos cv hc => ?_⟩
  · rw [upd_ne (fun z => n1 ps (by rw [← z, h1] at hp; exact (Option.some.inj hp).symm))]
    exact h1
  · obtain ⟨c, e1, e2⟩ := h3 pos cv hc
    refine ⟨c, e1, ?_⟩
    rw [upd_ne (fun z => n2 q.2 (by subst z; rw [e2] at hp; exact (Option.some.inj hp).symm))]
    exact e2
theorem FldsOk.kp {W W' : AP} {H H' : Hp} (k : Kp W H W' H') : ∀ {vs : List (Str × V)} {fs : List (Str × D)}, FldsOk K W H vs fs → FldsOk K W' H' vs fs
  | _, _, .nil => .nil
  | _, _, .cons a b => .cons ⟨a.1, a.2.kp k⟩ (FldsOk.kp k b)
theorem DicAt.kp {W W' : AP} {H H' : Hp} {p : Addr} {kvs : List (NestedKey × D)} (k : Kp W H W' H') (hp : ∀ o, H p = some o → H' p = some o) (h : DicAt P w K W H p kvs) : DicAt P w K W' H' p kvs := by
  obtain ⟨xs, h1, h2, h3, h4, h5⟩ := h
  refine ⟨xs, hp _ h1, h2, h3, h4, ?_⟩
  exact Paired.mapP h5 fun x y ⟨e1, e2, e3, d, e4, e5⟩ => ⟨e1, e2, e3, d, e4.kp k, e5⟩
/-- a slot's content, carried -/
theorem SlOk.kp {W W' : AP} {H H' : Hp} {i : Nat} {x : Option (Option V)} {s : Sl} (k : Kp W H W' H') (hp : ∀ p o, s.isO = true → x = some (some (.ref p)) → H p = some o → H' p = some o) (h : SlOk P w K C pa W H i x s) : SlOk P w K C pa W' H' i x s := by
  cases s with
  | un => trivial
  | val d => obtain ⟨v, e, r⟩ := h; exact ⟨v, e, r.kp k⟩
  | scr ns => obtain ⟨v, e, r⟩ := h; exact ⟨v, e, r.kp k⟩
  | own fx ds => obtain ⟨p, vs, e, f, q, r⟩ := h; exact ⟨p, vs, e, f, hp p _ rfl e q, r.kp k⟩
  | dic fx kvs => obtain ⟨p, e, f, r⟩ := h; exact ⟨p, e, f, r.kp k fun o q => hp p o rfl e q⟩
  | ins fx fs => obtain ⟨p, dx, vs, e, f, q, l, r⟩ := h; exact ⟨p, dx, vs, e, f, hp p _ rfl e q, l, r.kp k⟩
/-- all that was tracked is as it was, more may stand -/
abbrev Ex (H H' : Hp) : Prop := ∀ a o, H a = some o → H' a = some o
theorem Ex.rfl' (H : Hp) : Ex H H := fun _ _ h => h
theorem Ex.tr {H H1 H2 : Hp} (a : Ex H H1) (b : Ex H1 H2) : Ex H H2 := fun x o h => b x o (a x o h)
theorem Ex.new {H : Hp} {p : Addr} {o : HO} (h : H p = none) : Ex H (upd H p o) := fun a u e => by rw [upd_ne (ne_of_none e h)]; exact e
theorem Ex.dom {H H' : Hp} (e : Ex H H') {a : Addr} (h : H a ≠ none) : H' a ≠ none := fun z => by
  cases q : H a with
  | none => exact h q
  | some u => rw [e a u q] at z; cases z
theorem R.ex (r : R P w K C pa U σ H ρ) (e : Ex H H1) : R P w K C pa U σ H1 ρ :=
  ⟨r.len, fun a h => e.dom (r.dom a h), r.tabs.ext e, r.out, r.apart, fun i s h => (r.slot i s h).kp (Kp.ex e) fun p o _ _ q => e p o q⟩
theorem Sq.ex (r : R P w K C pa U σ H ρ) (e : Ex H H1) : Sq P w K C pa U σ H ρ σ H1 ρ := ⟨r.ex e, Gr.ex e, fun _ h => .inl h⟩
theorem R.wdom (r : R P w K C pa U σ H ρ) {a : Addr} (h : Wd U σ ρ a) : H a ≠ none := by
  rcases h with h | ⟨i, s, h1, h2, h3⟩
  · exact r.dom a h
  · have q := r.slot i s h1
    intro z
    cases s with
    | un => cases h2
    | val d => cases h2
    | scr d => cases h2
    | own fx ds => obtain ⟨p, vs, e, _, q, _⟩ := q; rw [h3] at e; cases e; rw [z] at q; cases q
    | dic fx kvs => obtain ⟨p, e, _, xs, q, _⟩ := q; rw [h3] at e; cases e; rw [z] at q; cases q
    | ins fx fs => obtain ⟨p, dx, vs, e, _, q, _⟩ := q; rw [h3] at e; cases e; rw [z] at q; cases q
theorem R.fresh (r : R P w K C pa U σ H ρ) {p : Addr} (h : H p = none) : ¬ Wd U σ ρ p := fun z => r.wdom z h
/-- a new tuple, a new list -/
theorem Rp.newT {W : AP} {H : Hp} {p : Addr} {vs : List V} {ds : List D} (n : ¬ W p) (h : H p = none) (r : Rps K W H vs ds) : Rp K W (upd H p (.tup vs)) (.ref p) (.tuple ds) :=
  .tup (.inl ⟨n, .inl upd_same⟩) (r.kp (Kp.ex (Ex.new h)))
theorem Rp.newL {W : AP} {H : Hp} {p : Addr} {vs : List V} {ds : List D} (n : ¬ W p) (h : H p = none) (r : Rps K W H vs ds) : Rp K W (upd H p (.lst vs)) (.ref p) (.list ds) :=
  .lst n upd_same (r.kp (Kp.ex (Ex.new h)))
end
end Dm
namespace Dm
open PySem PySem.Spec PyProof.Rows L2 LamX
/-! ### two-place operations on data -/
def rD2 (K : PySem.W.Frag) (p : D → D → Option D) : R2 := fun x y H Q => ∃ (W : AP) (dx dy d : D), Rp K W H x dx ∧ Rp K W H y dy ∧ (∀ a, W a → H a ≠ none) ∧ p dx dy = some d ∧ ∀ v H', Ex H H' → Rp K W H' v d → Q v H'
theorem nW {W : AP} {H : Hp} (d : ∀ a, W a → H a ≠ none) {p : Addr} (h : H p = none) : ¬ W p := fun z => d p z h
section
variable {X : Cx}
def addD : D → D → Option D
  | .int i, .int j => some (.int (i + j))
  | .str x, .str y => if x.length + y.length ≤ sizeLine then some (.str (x ++ y)) else none
  | .list xs, .list ys => if xs.length + ys.length ≤ sizeLine then some (.list (xs ++ ys)) else none
  | .tuple xs, .tuple ys => if xs.length + ys.length ≤ sizeLine then some (.tuple (xs ++ ys)) else none
  | _, _ => none
theorem len_app (x y : Str) : (x ++ y).length = x.length + y.length := by
  show (x.cps ++ y.cps).size = _
  rw [Array.size_append] <;> rfl
theorem ok_app {x y : Str} (h : StrOk x) (g : StrOk y) (z : x.length + y.length ≤ sizeLine) : StrOk (x ++ y) := by
  have e : (x ++ y).cps = x.cps ++ y.cps := rfl
  refine StrOk.mk ?_ (by rw [len_app]; exact z)
  rw [e, Array.all_append, h.all, g.all] <;> rfl
theorem dop_add : OpR X (binaryOp .Add) (rD2 X.K addD) := by
  rintro pins s σ H x y v u Q I ru rv ⟨W, dx, dy, d, rx, ry, dom, e, k⟩
  cases dx <;> cases dy <;> simp only [addD, reduceCtorEq] at e
  case int.int i j =>
    cases e
    cases rx; cases ry
    exact op_add pins s σ H _ _ v u Q I ru rv ⟨i, j, rfl, rfl, k _ _ (Ex.rfl' H) (.int _)⟩
  case str.str a b =>
    cases rx with | str _ ha =>
    cases ry with | str _ hb =>
    split at e
    · cases e
      rename_i hz
      exact op_add_str pins s σ H _ _ v u Q I ru rv ⟨a, b, rfl, rfl, hz, k _ _ (Ex.rfl' H) (.str _ (ok_app ha hb hz))⟩
    · cases e
  case list.list as bs =>
    obtain ⟨a, xs, rfl, na, ha, ra⟩ := rx.inv_lst
    obtain ⟨b, ys, rfl, nb, hb, rb⟩ := ry.inv_lst
    split at e
    · cases e
      rename_i hz
      exact op_cat pins s σ H _ _ v u Q I ru rv ⟨a, b, xs, ys, rfl, rfl, ha, hb, by rw [ra.length, rb.length]; exact hz, fun p hp => k _ _ (Ex.new hp) (Rp.newL (nW dom hp) hp (ra.append rb))⟩
    · cases e
  case tuple.tuple as bs =>
    obtain ⟨a, xs, rfl, ha, ra⟩ := rx.inv_tup
    obtain ⟨b, ys, rfl, hb, rb⟩ := ry.inv_tup
    split at e
    · cases e
      rename_i hz
      refine op_catA pins s σ H _ _ v u Q I ru rv ⟨a, b, xs, ys, rfl, rfl, ha.sq, hb.sq, by rw [ra.length, rb.length]; exact hz, fun e => ?_, fun _ e => ?_, fun _ _ p hp => k _ _ (Ex.new hp) (Rp.newT (nW dom hp) hp (ra.append rb))⟩
      · subst e
        cases ra
        exact k _ _ (Ex.rfl' H) ry
      · subst e
        cases rb
        rw [List.append_nil] at k
        exact k _ _ (Ex.rfl' H) rx
    · cases e
def subD : D → D → Option D
  | .int i, .int j => some (.int (i - j))
  | _, _ => none
theorem dop_sub : OpR X (binaryOp .Sub) (rD2 X.K subD) := by
  rintro pins s σ H x y v u Q I ru rv ⟨W, dx, dy, d, rx, ry, dom, e, k⟩
  cases dx <;> cases dy <;> simp only [subD, reduceCtorEq] at e
  case int.int i j =>
    cases e
    cases rx; cases ry
    exact op_sub pins s σ H _ _ v u Q I ru rv ⟨i, j, rfl, rfl, k _ _ (Ex.rfl' H) (.int _)⟩
def mulOk (i j : Int) : Prop := CMul i j ∨ CMulW i j
instance (i j : Int) : Decidable (mulOk i j) := by unfold mulOk CMul CMulW; infer_instance
def mulD : D → D → Option D
  | .int i, .int j => if mulOk i j then some (.int (i * j)) else none
  | .tuple xs, .int k => if xs ≠ [] ∧ 1 ≤ k ∧ k ≤ 1000 ∧ xs.length ≤ 1000 then some (.tuple (List.replicate k.toNat xs).flatten) else none
  | _, _ => none
theorem Rps.rep {K W H} {vs : List V} {ds : List D} (h : Rps K W H vs ds) : ∀ k : Nat, Rps K W H (List.replicate k vs).flatten (List.replicate k ds).flatten
  | 0 => .nil
  | k + 1 => by
    rw [List.replicate_succ, List.replicate_succ, List.flatten_cons, List.flatten_cons]
    exact h.append (Rps.rep h k)
theorem tuple_mul1 (l : Addr) (items : Array Value) (n : Nat) (dd : Option Addr) (sl : Array (Option Value)) (u : Tok) :
    Meets (Builtin.«tuple.__mul__» ⟨[.ref l, .int 1 u], []⟩) (fun _ R s => s.heap.get? l = some { cls := .type "tuple", dict := dd, data := .seq items n, slots := sl } ∧
      R (.ok (.ret (Value.ref l))) s) :=
  .of_wp fun prog w A R s h => by
    obtain ⟨hp, g, d, tk, os⟩ := s
    obtain ⟨hl, h⟩ := h
    have f1 := AutoSeq1.idx_int
    wp_walk using wpAny_loadPart' hl
    exact ⟨_, rfl, h⟩

theorem op_repT1 {x y : V} {v u : Value} {pins : List (Addr × Obj)} {s : Shared} {σ : St} {H : Hp} {Q : VK} {l : Addr} {xs : List V} (I : Inv X pins σ H s) (rx : RelV (.ref l) v) (ry : RelV (.int 1) u) (hT : SqT X.K H l xs) (q : Q (.ref l) H) :
    wpAny (model X.prog X.w) X.A (binaryOp .Mult v u) (EP X pins σ Q) X.xe s := by
  cases rx
  obtain ⟨t, rfl⟩ := ry
  obtain ⟨its, r, ⟨⟨cls, dd, data, sl⟩, ho, hc, n, hd⟩, hs⟩ := I.tuple hT
  simp only at hc hd
  subst hc hd
  exact wpAny_binaryOp_repeat_ref (T := "tuple") (U := "int") (by decide) ⟨_, ho, rfl⟩ (fun s' => typeIs_int s' 1 t) noFill_tuple_mul F.fills_int_mul F.slot_int_rmul repeat_tuple F.slot_int_index.lookup
    (call_meets F.slot_int_rmul (typeIs_int s 1 t) F.entry_int_rmul (F.args_int_rmul_2 _ _) (int_rmul_tuple 1 t l its.toArray n dd sl)
      ⟨ho, rfl, ⟨_, ho, rfl⟩, call_meets F.slot_tuple_mul ⟨_, ho, rfl⟩ F.entry_tuple_mul (F.args_tuple_mul_2 _ _) (tuple_mul1 l its.toArray n dd sl t) ⟨ho, ⟨.ref l, H, I, rfl, q⟩⟩⟩)
theorem dop_mul : OpR X (binaryOp .Mult) (rD2 X.K mulD) := by
  rintro pins s σ H x y v u Q I ru rv ⟨W, dx, dy, d, rx, ry, dom, e, k⟩
  cases dx <;> cases dy <;> simp only [mulD, reduceCtorEq] at e
  case int.int i j =>
    split at e
    · cases e
      rename_i hz
      cases rx; cases ry
      rcases hz with hz | hz
      · exact op_mul pins s σ H _ _ v u Q I ru rv ⟨i, j, rfl, rfl, hz, k _ _ (Ex.rfl' H) (.int _)⟩
      · exact op_mulW pins s σ H _ _ v u Q I ru rv ⟨i, j, rfl, rfl, hz, k _ _ (Ex.rfl' H) (.int _)⟩
    · cases e
  case tuple.int as j =>
    split at e
    · cases e
      rename_i hz
      obtain ⟨h1, h2, h3, h4⟩ := hz
      obtain ⟨a, xs, rfl, ha, ra⟩ := rx.inv_tup
      cases ry
      by_cases h : j = 1
      · subst h
        refine op_repT1 (x := .ref a) (y := .int 1) I ru rv ha.sq (k _ _ (Ex.rfl' H) ?_)
        have e1 : (List.replicate (Int.toNat 1) as).flatten = as := by simp
        rw [e1]
        exact rx
      · refine op_repT pins s σ H _ _ v u Q I ru rv ⟨a, j, xs, rfl, rfl, ha.sq, fun z => ?_, by omega, h3, by rw [ra.length]; exact h4, fun p hp => k _ _ (Ex.new hp) (Rp.newT (nW dom hp) hp (ra.rep _))⟩
        subst z
        cases ra
        exact h1 rfl
    · cases e
def fdivD : D → D → Option D
  | .int i, .int j => if 0 < j ∧ j.natAbs.log2 < 9000 then some (.int (i / j)) else none
  | _, _ => none
theorem dop_fdiv : OpR X (binaryOp .FloorDiv) (rD2 X.K fdivD) := by
  rintro pins s σ H x y v u Q I ru rv ⟨W, dx, dy, d, rx, ry, dom, e, k⟩
  cases dx <;> cases dy <;> simp only [fdivD, reduceCtorEq] at e
  case int.int i j =>
    split at e
    · cases e
      rename_i hz
      cases rx; cases ry
      exact op_fdivW pins s σ H _ _ v u Q I ru rv ⟨i, j, rfl, rfl, hz, k _ _ (Ex.rfl' H) (.int _)⟩
    · cases e
def modD : D → D → Option D
  | .int i, .int j => if 0 < j then some (.int (i % j)) else none
  | _, _ => none
theorem dop_mod : OpR X (binaryOp .Mod) (rD2 X.K modD) := by
  rintro pins s σ H x y v u Q I ru rv ⟨W, dx, dy, d, rx, ry, dom, e, k⟩
  cases dx <;> cases dy <;> simp only [modD, reduceCtorEq] at e
  case int.int i j =>
    split at e
    · cases e
      rename_i hz
      cases rx; cases ry
      exact op_mod pins s σ H _ _ v u Q I ru rv ⟨i, j, rfl, rfl, hz, k _ _ (Ex.rfl' H) (.int _)⟩
    · cases e
def powD : D → D → Option D
  | .int i, .int j => if 0 ≤ j ∧ j ≤ 1000000 ∧ i.natAbs < 2 ^ 64 then some (.int (i ^ j.toNat)) else none
  | _, _ => none
theorem dop_pow : OpR X (binaryOp .Pow) (rD2 X.K powD) := by
  rintro pins s σ H x y v u Q I ru rv ⟨W, dx, dy, d, rx, ry, dom, e, k⟩
  cases dx <;> cases dy <;> simp only [powD, reduceCtorEq] at e
  case int.int i j =>
    split at e
    · cases e
      rename_i hz
      cases rx; cases ry
      exact op_pow pins s σ H _ _ v u Q I ru rv ⟨i, j, rfl, rfl, hz, k _ _ (Ex.rfl' H) (.int _)⟩
    · cases e
inductive B2 where
  | add | sub | mul | fdiv | mod | pow
def B2.op : B2 → Operator
  | .add => .Add | .sub => .Sub | .mul => .Mult | .fdiv => .FloorDiv | .mod => .Mod | .pow => .Pow
def B2.den : B2 → D → D → Option D
  | .add => addD | .sub => subD | .mul => mulD | .fdiv => fdivD | .mod => modD | .pow => powD
theorem B2.ok (o : B2) : OpR X (binaryOp o.op) (rD2 X.K o.den) := by
  cases o
  · exact dop_add
  · exact dop_sub
  · exact dop_mul
  · exact dop_fdiv
  · exact dop_mod
  · exact dop_pow
/-! ### comparisons -/
def eqD (x y : D) : Option D := if min x.depth y.depth ≤ 60 then some (.bool (PyData.eqv x y)) else none
def neD (x y : D) : Option D := if min x.depth y.depth ≤ 60 then some (.bool (!PyData.eqv x y)) else none
theorem dop_eq (hu : X.A.units + 64 < cLine) : OpR X (compareOp .Eq) (rD2 X.K eqD) := by
  rintro pins s σ H x y v u Q I ru rv ⟨W, dx, dy, d, rx, ry, dom, e, k⟩
  unfold eqD at e
  split at e
  · cases e
    rename_i hz
    obtain ⟨as, r1⟩ := Dp.reads I dx x v rx.dp ru
    obtain ⟨bs, r2⟩ := Dp.reads I dy y u ry.dp rv
    exact SeqAt.compareEq_reads r1 r2 rx.can ry.can (by omega) ⟨.bl _, H, I, rfl, k _ _ (Ex.rfl' H) (.bl _)⟩
  · cases e
theorem dop_ne (hu : X.A.units + 64 < cLine) : OpR X (compareOp .NotEq) (rD2 X.K neD) := by
  rintro pins s σ H x y v u Q I ru rv ⟨W, dx, dy, d, rx, ry, dom, e, k⟩
  unfold neD at e
  split at e
  · cases e
    rename_i hz
    obtain ⟨as, r1⟩ := Dp.reads I dx x v rx.dp ru
    obtain ⟨bs, r2⟩ := Dp.reads I dy y u ry.dp rv
    exact SeqAt.compareNe_reads r1 r2 rx.can ry.can (by omega) ⟨.bl _, H, I, rfl, k _ _ (Ex.rfl' H) (.bl _)⟩
  · cases e
def icmp (p : Int → Int → Bool) (t : D → D → Bool) : D → D → Option D
  | .int i, .int j => some (.bool (p i j))
  | .tuple xs, .tuple ys => if PySem.W.alike (.tuple xs) (.tuple ys) && decide (min (PyData.tuple xs).depth (PyData.tuple ys).depth ≤ 60) then some (.bool (t (.tuple xs) (.tuple ys))) else none
  | _, _ => none
/-- an order on data that are alike -/
def OrdR (X : Cx) (op : CmpOp) (t : D → D → Bool) : Prop := ∀ {da db : D} {s : Shared} {a b : Value} {as bs : List Addr} {Q : Value → Shared → Prop}, Reads s.heap a da as → Reads s.heap b db bs → PySem.W.alike da db = true → da ≠ .none → X.A.units + min da.depth db.depth < cLine → Q (.bool (t da db)) s → wpAny (model X.prog X.w) X.A (compareOp op a b) Q X.xe s
theorem dop_icmp (hu : X.A.units + 64 < cLine) {op : CmpOp} {p : Int → Int → Bool} {t : D → D → Bool} (h : OpR X (compareOp op) (rI0 fun i j => .bl (p i j))) (g : OrdR X op t) : OpR X (compareOp op) (rD2 X.K (icmp p t)) := by
  rintro pins s σ H x y v u Q I ru rv ⟨W, dx, dy, d, rx, ry, dom, e, k⟩
  cases dx <;> cases dy <;> simp only [icmp, reduceCtorEq] at e
  case int.int i j =>
    cases e
    cases rx; cases ry
    exact h pins s σ H _ _ v u Q I ru rv ⟨i, j, rfl, rfl, k _ _ (Ex.rfl' H) (.bl _)⟩
  case tuple.tuple xs ys =>
    split at e
    · rename_i hz
      simp only [Bool.and_eq_true, decide_eq_true_eq] at hz
      cases e
      obtain ⟨as, r1⟩ := Dp.reads I _ x v rx.dp ru
      obtain ⟨bs, r2⟩ := Dp.reads I _ y u ry.dp rv
      exact g r1 r2 hz.1 (fun z => nomatch z) (by have := hz.2; omega) ⟨.bl _, H, I, rfl, k _ _ (Ex.rfl' H) (.bl _)⟩
    · cases e
def isNone : D → Bool
  | .none => true
  | _ => false
def isnD : D → D → Option D
  | x, .none => some (.bool (isNone x))
  | .bool a, .bool b => some (.bool (decide (a = b)))
  | _, _ => none
def notnD : D → D → Option D
  | x, .none => some (.bool (!isNone x))
  | .bool a, .bool b => some (.bool (!decide (a = b)))
  | _, _ => none
theorem Rp.non_iff {K W H} {x : V} {d : D} (r : Rp K W H x d) : decide (x = .non) = isNone d := by cases r <;> rfl
theorem dop_isn : OpR X (compareOp .Is) (rD2 X.K isnD) := by
  rintro pins s σ H x y v u Q I ru rv ⟨W, dx, dy, d, rx, ry, dom, e, k⟩
  cases dy with
  | none =>
    cases (show some (PyData.bool (isNone dx)) = some d by cases dx <;> exact e)
    cases ry
    refine op_isN pins s σ H _ _ v u Q I ru rv ⟨rfl, ?_⟩
    rw [rx.non_iff]
    exact k _ _ (Ex.rfl' H) (.bl _)
  | bool b =>
    cases dx with
    | bool a =>
      cases e
      cases ry
      cases rx
      exact op_is_bl pins s σ H _ _ v u Q I ru rv ⟨_, _, rfl, rfl, k _ _ (Ex.rfl' H) (.bl _)⟩
    | _ => cases e
  | _ => cases dx <;> cases e
theorem dop_notn : OpR X (compareOp .IsNot) (rD2 X.K notnD) := by
  rintro pins s σ H x y v u Q I ru rv ⟨W, dx, dy, d, rx, ry, dom, e, k⟩
  cases dy with
  | none =>
    cases (show some (PyData.bool (!isNone dx)) = some d by cases dx <;> exact e)
    cases ry
    refine op_notN pins s σ H _ _ v u Q I ru rv ⟨rfl, ?_⟩
    rw [rx.non_iff]
    exact k _ _ (Ex.rfl' H) (.bl _)
  | bool b =>
    cases dx with
    | bool a =>
      cases e
      cases ry
      cases rx
      exact op_isnot_bl pins s σ H _ _ v u Q I ru rv ⟨_, _, rfl, rfl, k _ _ (Ex.rfl' H) (.bl _)⟩
    | _ => cases e
  | _ => cases dx <;> cases e
/-- x in y -/
def inD : D → D → Option D
  | x, .list ds => if x.depth ≤ 60 then some (.bool (ds.any fun z => PyData.eqv z x)) else none
  | x, .tuple ds => if x.depth ≤ 60 then some (.bool (ds.any fun z => PyData.eqv z x)) else none
  | .str i, .str j => some (.bool (!(Builtin.Str.occurrences j i 0 j.length 1).isEmpty))
  | _, _ => none
def nin : Option D → Option D
  | some (.bool b) => some (.bool (!b))
  | _ => none
def ninD (x y : D) : Option D := nin (inD x y)
theorem dop_in (hu : X.A.units + 64 < cLine) : OpR X (compareOp .In) (rD2 X.K inD) := by
  rintro pins s σ H x y v u Q I ru rv ⟨W, dx, dy, d, rx, ry, dom, e, k⟩
  obtain ⟨as, r1⟩ := Dp.reads I dx x v rx.dp ru
  obtain ⟨bs, r2⟩ := Dp.reads I dy y u ry.dp rv
  have c1 := rx.can
  have c2 := ry.can
  cases dy with
  | list ds =>
    simp only [inD] at e
    split at e
    · cases e
      have hm : min (PyData.depthAll ds) dx.depth ≤ dx.depth := Nat.min_le_right _ _
      exact SeqAt.in_list_reads r2 r1 c2 c1 (by omega) ⟨.bl _, H, I, rfl, k _ _ (Ex.rfl' H) (.bl _)⟩
    · cases e
  | tuple ds =>
    simp only [inD] at e
    split at e
    · cases e
      have hm : min (PyData.depthAll ds) dx.depth ≤ dx.depth := Nat.min_le_right _ _
      exact SeqAt.in_tuple_reads r2 r1 c2 c1 (by omega) ⟨.bl _, H, I, rfl, k _ _ (Ex.rfl' H) (.bl _)⟩
    · cases e
  | str j =>
    cases dx <;> simp only [inD, reduceCtorEq] at e
    cases e
    cases rx; cases ry
    exact op_in_str pins s σ H _ _ v u Q I ru rv ⟨_, j, rfl, rfl, k _ _ (Ex.rfl' H) (.bl _)⟩
  | _ => cases dx <;> simp only [inD, reduceCtorEq] at e
theorem dop_notin (hu : X.A.units + 64 < cLine) : OpR X (compareOp .NotIn) (rD2 X.K ninD) := by
  rintro pins s σ H x y v u Q I ru rv ⟨W, dx, dy, d, rx, ry, dom, e, k⟩
  obtain ⟨as, r1⟩ := Dp.reads I dx x v rx.dp ru
  obtain ⟨bs, r2⟩ := Dp.reads I dy y u ry.dp rv
  have c1 := rx.can
  have c2 := ry.can
  unfold ninD at e
  cases dy with
  | list ds =>
    simp only [inD] at e
    split at e
    · cases e
      have hm : min (PyData.depthAll ds) dx.depth ≤ dx.depth := Nat.min_le_right _ _
      exact SeqAt.notIn_list_reads r2 r1 c2 c1 (by omega) ⟨.bl _, H, I, rfl, k _ _ (Ex.rfl' H) (.bl _)⟩
    · cases e
  | tuple ds =>
    simp only [inD] at e
    split at e
    · cases e
      have hm : min (PyData.depthAll ds) dx.depth ≤ dx.depth := Nat.min_le_right _ _
      exact SeqAt.notIn_tuple_reads r2 r1 c2 c1 (by omega) ⟨.bl _, H, I, rfl, k _ _ (Ex.rfl' H) (.bl _)⟩
    · cases e
  | str j =>
    cases dx <;> simp only [inD, nin, reduceCtorEq] at e
    cases e
    cases rx; cases ry
    exact op_notin_str pins s σ H _ _ v u Q I ru rv ⟨_, j, rfl, rfl, k _ _ (Ex.rfl' H) (.bl _)⟩
  | _ => cases dx <;> simp only [inD, nin, reduceCtorEq] at e
inductive C2 where
  | eq | ne | lt | le | gt | ge | isn | notn | isin | notin
def C2.op : C2 → CmpOp
  | .eq => .Eq | .ne => .NotEq | .lt => .Lt | .le => .LtE | .gt => .Gt | .ge => .GtE | .isn => .Is | .notn => .IsNot | .isin => .In | .notin => .NotIn
def C2.den : C2 → D → D → Option D
  | .eq => eqD | .ne => neD
  | .lt => icmp (fun i j => decide (i < j)) PySem.W.dataLt | .le => icmp (fun i j => decide (i ≤ j)) fun x y => !PySem.W.dataLt y x
  | .gt => icmp (fun i j => decide (j < i)) fun x y => PySem.W.dataLt y x | .ge => icmp (fun i j => decide (j ≤ i)) fun x y => !PySem.W.dataLt x y
  | .isn => isnD | .notn => notnD | .isin => inD | .notin => ninD
theorem C2.ok (hu : X.A.units + 64 < cLine) (o : C2) : OpR X (compareOp o.op) (rD2 X.K o.den) := by
  cases o
  · exact dop_eq hu
  · exact dop_ne hu
  · exact dop_icmp hu op_lt PySem.W.lt_data
  · exact dop_icmp hu op_le PySem.W.le_data
  · exact dop_icmp hu op_gt PySem.W.gt_data
  · exact dop_icmp hu op_ge PySem.W.ge_data
  · exact dop_isn
  · exact dop_notn
  · exact dop_in hu
  · exact dop_notin hu
/-! ### subscripts, slices -/
def ixD : D → D → Option D
  | .list ds, .int i => atI ds i
  | .tuple ds, .int i => atI ds i
  | .str z, .int i => (atI z.cps.toList i).map fun c => .str ⟨#[c]⟩
  | _, _ => none
theorem atI_len {α β : Type} {xs : List α} {ys : List β} (h : xs.length = ys.length) (i : Int) : ∀ j, ixN xs.length i = some j → atI xs i = xs[j]? ∧ atI ys i = ys[j]? := fun j e => by
  unfold atI
  rw [← h, e] <;> exact ⟨rfl, rfl⟩
theorem Rps.atI {K W H} {vs : List V} {ds : List D} (r : Rps K W H vs ds) {i : Int} {d : D} (e : L2.atI ds i = some d) : ∃ v, L2.atI vs i = some v ∧ Rp K W H v d := by
  cases q : ixN vs.length i with
  | none =>
    unfold L2.atI at e
    rw [← r.length, q] at e
    cases e
  | some j =>
    obtain ⟨e1, e2⟩ := atI_len r.length i j q
    rw [e2] at e
    obtain ⟨v, h1, h2⟩ := r.get e
    exact ⟨v, by rw [e1]; exact h1, h2⟩
theorem ok_one {z : Str} (h : StrOk z) {i : Int} {c : Nat} (e : L2.atI z.cps.toList i = some c) : StrOk ⟨#[c]⟩ := by
  have hm : c ∈ z.cps.toList := by
    unfold L2.atI at e
    cases q : ixN z.cps.toList.length i with
    | none => rw [q] at e; cases e
    | some j => rw [q] at e; exact List.mem_of_getElem? e
  have a := h.all
  rw [← Array.all_toList, List.all_eq_true] at a
  refine StrOk.mk ?_ (by show 1 ≤ sizeLine; decide)
  have := a c hm
  simpa using this
theorem dix : IxR X (rD2 X.K ixD) := by
  rintro value slice pins s σ H x y v u Q I ru rv ⟨W, dx, dy, d, rx, ry, dom, e, k⟩ hs
  cases dx <;> cases dy <;> simp only [ixD, reduceCtorEq] at e
  case list.int ds i =>
    obtain ⟨a, xs, rfl, na, ha, ra⟩ := rx.inv_lst
    cases ry
    obtain ⟨w', e1, r1⟩ := ra.atI e
    exact ix_list value slice pins s σ H _ _ v u Q I ru rv ⟨a, xs, i, w', rfl, rfl, SqL.of ha, e1, k _ _ (Ex.rfl' H) r1⟩ hs
  case tuple.int ds i =>
    obtain ⟨a, xs, rfl, ha, ra⟩ := rx.inv_tup
    cases ry
    obtain ⟨w', e1, r1⟩ := ra.atI e
    exact ix_tup value slice pins s σ H _ _ v u Q I ru rv ⟨a, xs, i, w', rfl, rfl, ha.sq, e1, k _ _ (Ex.rfl' H) r1⟩ hs
  case str.int z i =>
    obtain ⟨c, e1, e2⟩ := Option.map_eq_some_iff.mp e
    subst e2
    cases rx with | str _ hz =>
    cases ry
    exact ix_str value slice pins s σ H _ _ v u Q I ru rv ⟨z, i, c, rfl, rfl, hz.len, e1, k _ _ (Ex.rfl' H) (.str _ (ok_one hz e1))⟩ hs
def cutG {α : Type} (xs : List α) (lo hi : Option Int) : List α := (xs.drop (HT.sIx xs.length 0 lo)).take (HT.sIx xs.length xs.length hi - HT.sIx xs.length 0 lo)
def slD (lo hi : Option Int) : D → Option D
  | .list ds => some (.list (cutG ds lo hi))
  | .tuple ds => some (.tuple (cutG ds lo hi))
  | .str z => some (.str (cutS z lo hi))
  | _ => none
theorem Rps.cut {K W H} {vs : List V} {ds : List D} (r : Rps K W H vs ds) (lo hi : Option Int) : Rps K W H (cutV vs lo hi) (cutG ds lo hi) := by
  unfold cutV cutG
  rw [r.length]
  exact (r.drop _).take _
theorem ok_cut {z : Str} (h : StrOk z) (lo hi : Option Int) : StrOk (cutS z lo hi) := by
  refine StrOk.mk ?_ (Nat.le_trans (cutS_length z lo hi) h.len)
  have a := h.all
  rw [← Array.all_toList, List.all_eq_true] at a ⊢
  intro c hc
  refine a c ?_
  unfold cutS at hc
  simp only at hc
  exact List.mem_of_mem_drop (List.mem_of_mem_take hc)
theorem cut_whole {α : Type} {xs : List α} {lo hi : Option Int} (h : HT.sIx xs.length 0 lo = 0 ∧ HT.sIx xs.length xs.length hi = xs.length) : cutG xs lo hi = xs := by
  unfold cutG
  rw [h.1, h.2, List.drop_zero, Nat.sub_zero, List.take_length]
def rSlD (K : PySem.W.Frag) : V → Option Int → Option Int → Hp → VK → Prop := fun x lo hi H Q => ∃ (W : AP) (dx d : D), Rp K W H x dx ∧ (∀ a, W a → H a ≠ none) ∧ slD lo hi dx = some d ∧ ∀ v H', Ex H H' → Rp K W H' v d → Q v H'
theorem dsl : SlR X (rSlD X.K) := by
  rintro pins s σ H x v vl vu lo hi sl Q I rx hs pl pu ⟨W, dx, d, rd, dom, e, k⟩
  cases dx <;> simp only [slD, reduceCtorEq] at e
  case list ds =>
    cases e
    obtain ⟨a, xs, rfl, na, ha, ra⟩ := rd.inv_lst
    exact sl_list pins s σ H _ v vl vu lo hi sl Q I rx hs pl pu ⟨a, xs, rfl, SqL.of ha, fun p hp => k _ _ (Ex.new hp) (Rp.newL (nW dom hp) hp (ra.cut lo hi))⟩
  case tuple ds =>
    cases e
    obtain ⟨a, xs, rfl, ha, ra⟩ := rd.inv_tup
    refine sl_tupA pins s σ H _ v vl vu lo hi sl Q I rx hs pl pu ⟨a, xs, rfl, ha.sq, fun hw => ?_, fun _ p hp => k _ _ (Ex.new hp) (Rp.newT (nW dom hp) hp (ra.cut lo hi))⟩
    rw [ra.length] at hw
    rw [cut_whole hw] at k
    exact k _ _ (Ex.rfl' H) rd
  case str z =>
    cases e
    cases rd with | str _ hz =>
    exact sl_str pins s σ H _ v vl vu lo hi sl Q I rx hs pl pu ⟨z, rfl, hz.len, k _ _ (Ex.rfl' H) (.str _ (ok_cut hz lo hi))⟩
def negD : D → Option D
  | .int i => some (.int (-i))
  | _ => none
def rD1 (K : PySem.W.Frag) (p : D → Option D) : V → Hp → VK → Prop := fun x H Q => ∃ (W : AP) (dx d : D), Rp K W H x dx ∧ (∀ a, W a → H a ≠ none) ∧ p dx = some d ∧ ∀ v H', Ex H H' → Rp K W H' v d → Q v H'
theorem dun_neg : UnR X (unaryOp .USub) (rD1 X.K negD) := by
  rintro pins s σ H x v Q I rx ⟨W, dx, d, rd, dom, e, k⟩
  cases dx <;> simp only [negD, reduceCtorEq] at e
  cases e
  cases rd
  exact un_neg pins s σ H _ v Q I rx ⟨_, rfl, k _ _ (Ex.rfl' H) (.int _)⟩
end
end Dm
namespace Dm
open PySem PySem.Spec PyProof.Rows L2 LamX
/-! ### built-in functions on data -/
def rDn (K : PySem.W.Frag) (p : List D → Option D) : List V → Hp → VK → Prop := fun xs H Q => ∃ (W : AP) (ds : List D) (d : D), Rps K W H xs ds ∧ (∀ a, W a → H a ≠ none) ∧ p ds = some d ∧ ∀ v H', Ex H H' → Rp K W H' v d → Q v H'
def intsOf : List D → Option (List Int)
  | [] => some []
  | .int i :: r => (intsOf r).map (i :: ·)
  | _ :: _ => none
def blsOf : List D → Option (List Bool)
  | [] => some []
  | .bool i :: r => (blsOf r).map (i :: ·)
  | _ :: _ => none
theorem intsOf_eq : ∀ {ds : List D} {ns : List Int}, intsOf ds = some ns → ds = ns.map PyData.int
  | [], ns, h => by cases h; rfl
  | d :: r, ns, h => by
    cases d <;> simp only [intsOf, reduceCtorEq] at h
    obtain ⟨ms, e1, e2⟩ := Option.map_eq_some_iff.mp h
    subst e2
    rw [intsOf_eq e1] <;> rfl
theorem blsOf_eq : ∀ {ds : List D} {ns : List Bool}, blsOf ds = some ns → ds = ns.map PyData.bool
  | [], ns, h => by cases h; rfl
  | d :: r, ns, h => by
    cases d <;> simp only [blsOf, reduceCtorEq] at h
    obtain ⟨ms, e1, e2⟩ := Option.map_eq_some_iff.mp h
    subst e2
    rw [blsOf_eq e1] <;> rfl
@[simp] theorem intsOf_map (ns : List Int) : intsOf (ns.map PyData.int) = some ns := by
  induction ns with
  | nil => rfl
  | cons n r ih => simp [intsOf, ih]
@[simp] theorem blsOf_map (ns : List Bool) : blsOf (ns.map PyData.bool) = some ns := by
  induction ns with
  | nil => rfl
  | cons n r ih => simp [blsOf, ih]
def maxL : List Int → Int
  | [] => 0
  | [a] => a
  | a :: r => max a (maxL r)
def minL : List Int → Int
  | [] => 0
  | [a] => a
  | a :: r => min a (minL r)
theorem maxL_is : ∀ {ns : List Int} {m : Int}, m ∈ ns → (∀ y ∈ ns, y ≤ m) → maxL ns = m
  | [a], m, h, _ => by simp at h; subst h; rfl
  | a :: b :: r, m, h, g => by
    show max a (maxL (b :: r)) = m
    by_cases hm : m ∈ b :: r
    · rw [maxL_is hm fun y hy => g y (List.mem_cons_of_mem _ hy)]
      exact Int.max_eq_right (g a List.mem_cons_self)
    · have e : m = a := (List.mem_cons.mp h).elim id fun z => absurd z hm
      subst e
      refine Int.max_eq_left ?_
      clear h hm
      have key : ∀ l : List Int, l ≠ [] → (∀ y ∈ l, y ≤ m) → maxL l ≤ m := fun l => by
        induction l with
        | nil => intro h; exact absurd rfl h
        | cons x l ih =>
          intro _ h
          cases l with
          | nil => exact h x List.mem_cons_self
          | cons z l => exact Int.max_le.mpr ⟨h x List.mem_cons_self, ih (by simp) fun y hy => h y (List.mem_cons_of_mem _ hy)⟩
      exact key _ (by simp) fun y hy => g y (List.mem_cons_of_mem _ hy)
theorem minL_is : ∀ {ns : List Int} {m : Int}, m ∈ ns → (∀ y ∈ ns, m ≤ y) → minL ns = m
  | [a], m, h, _ => by simp at h; subst h; rfl
  | a :: b :: r, m, h, g => by
    show min a (minL (b :: r)) = m
    by_cases hm : m ∈ b :: r
    · rw [minL_is hm fun y hy => g y (List.mem_cons_of_mem _ hy)]
      exact Int.min_eq_right (g a List.mem_cons_self)
    · have e : m = a := (List.mem_cons.mp h).elim id fun z => absurd z hm
      subst e
      refine Int.min_eq_left ?_
      clear h hm
      have key : ∀ l : List Int, l ≠ [] → (∀ y ∈ l, m ≤ y) → m ≤ minL l := fun l => by
        induction l with
        | nil => intro h; exact absurd rfl h
        | cons x l ih =>
          intro _ h
          cases l with
          | nil => exact h x List.mem_cons_self
          | cons z l => exact Int.le_min.mpr ⟨h x List.mem_cons_self, ih (by simp) fun y hy => h y (List.mem_cons_of_mem _ hy)⟩
      exact key _ (by simp) fun y hy => g y (List.mem_cons_of_mem _ hy)
/-! a merge sort that the kernel can run -/
def mergeF {α : Type} (le : α → α → Bool) : Nat → List α → List α → List α
  | 0, _, _ => []
  | _ + 1, [], ys => ys
  | _ + 1, x :: xs, [] => x :: xs
  | n + 1, x :: xs, y :: ys => if le x y then x :: mergeF le n xs (y :: ys) else y :: mergeF le n (x :: xs) ys
theorem mergeF_eq {α : Type} {le : α → α → Bool} : ∀ (n : Nat) (xs ys : List α), xs.length + ys.length < n → mergeF le n xs ys = List.merge xs ys le
  | 0, _, _, h => absurd h (Nat.not_lt_zero _)
  | n + 1, [], ys, _ => by simp [mergeF]
  | n + 1, x :: xs, [], _ => by simp [mergeF]
  | n + 1, x :: xs, y :: ys, h => by
    simp only [List.length_cons] at h
    unfold mergeF List.merge
    rw [mergeF_eq n xs (y :: ys) (by simp only [List.length_cons]; omega), mergeF_eq n (x :: xs) ys (by simp only [List.length_cons]; omega)]
def msortF {α : Type} (le : α → α → Bool) : Nat → List α → List α
  | 0, l => l
  | _ + 1, [] => []
  | _ + 1, [a] => [a]
  | n + 1, a :: b :: l => mergeF le (l.length + 3) (msortF le n ((a :: b :: l).take ((l.length + 3) / 2))) (msortF le n ((a :: b :: l).drop ((l.length + 3) / 2)))
theorem msortF_eq {α : Type} {le : α → α → Bool} : ∀ (n : Nat) (l : List α), l.length ≤ n → msortF le n l = l.mergeSort le
  | 0, l, h => by
    have : l = [] := List.length_eq_zero_iff.mp (by omega)
    subst this
    simp [msortF]
  | n + 1, [], _ => by simp [msortF]
  | n + 1, [a], _ => by simp [msortF]
  | n + 1, a :: b :: l, h => by
    simp only [List.length_cons] at h
    have h1 : ((a :: b :: l).take ((l.length + 3) / 2)).length ≤ n := by rw [List.length_take]; simp only [List.length_cons]; omega
    have h2 : ((a :: b :: l).drop ((l.length + 3) / 2)).length ≤ n := by rw [List.length_drop]; simp only [List.length_cons]; omega
    unfold msortF
    rw [msortF_eq n _ h1, msortF_eq n _ h2, mergeF_eq]
    · conv => rhs; unfold List.mergeSort
      simp only [List.MergeSort.Internal.splitInTwo, List.splitAt_eq]
      have e : (l.length + 1 + 1 + 1) / 2 = (l.length + 3) / 2 := rfl
      simp [e]
    · rw [List.length_mergeSort, List.length_mergeSort, List.length_take, List.length_drop]
      simp only [List.length_cons]
      omega
/-- sorted -/
def dle : D → D → Bool := PySem.W.dataLe false id
def nonEmptyTuple : D → Bool
  | .tuple (_ :: _) => true
  | _ => false
def plainItem : D → Bool
  | .tuple _ => false
  | .none => false
  | _ => true
def sortable (ds : List D) : Bool := (ds.all nonEmptyTuple || ds.all plainItem) && ds.all (fun d => ds.all fun e => PySem.W.alike d e) && ds.all (fun d => decide (d.depth ≤ 60))
/-- all of one kind, none is None -/
def comparable (ds : List D) : Bool := ds.all (fun d => ds.all fun e => PySem.W.alike d e) && (ds.all (fun d => !isNone d) && ds.all (fun d => decide (d.depth ≤ 60)))
inductive Bt where
  | len | tuple | list | all | any | max | min | sum | sorted | int | abs | minT | str
  deriving DecidableEq
def Bt.name : Bt → Str
  | .len => "len" | .tuple => "tuple" | .list => "list" | .all => "all" | .any => "any" | .max => "max" | .min => "min" | .sum => "sum" | .sorted => "sorted" | .int => "int" | .abs => "abs" | .minT => "min" | .str => "str"
def Bt.val : Bt → Value
  | .len => .builtin "len" | .tuple => .type "tuple" | .list => .type "list" | .all => .builtin "all" | .any => .builtin "any" | .max => .builtin "max" | .min => .builtin "min" | .sum => .builtin "sum" | .sorted => .builtin "sorted" | .int => .type "int" | .abs => .builtin "abs" | .minT => .builtin "min" | .str => .type "str"
def Bt.den : Bt → List D → Option D
  | .len, [.list ds] => some (.int ds.length)
  | .len, [.tuple ds] => some (.int ds.length)
  | .len, [.str z] => some (.int z.length)
  | .tuple, [.list ds] => some (.tuple ds)
  | .tuple, [.tuple ds] => some (.tuple ds)
  | .list, [.list ds] => some (.list ds)
  | .list, [.tuple ds] => some (.list ds)
  | .all, [.list ds] => (blsOf ds).map fun bs => .bool (bs.all id)
  | .any, [.list ds] => (blsOf ds).map fun bs => .bool (bs.any id)
  | .max, [.int i, .int j] => some (.int (Max.max i j))
  | .min, [.int i, .int j] => some (.int (Min.min i j))
  | .max, [.list ds] => (intsOf ds).bind fun ns => if ns.isEmpty then none else some (.int (maxL ns))
  | .min, [.list ds] => (intsOf ds).bind fun ns => if ns.isEmpty then none else some (.int (minL ns))
  | .sum, [.list ds] => (intsOf ds).map fun ns => .int ns.sum
  | .sorted, [.list ds] => if sortable ds then some (.list (msortF dle ds.length ds)) else none
  | .int, [.int i] => some (.int i)
  | .int, [.bool b] => some (.int (if b then 1 else 0))
  | .abs, [.int i] => some (.int (if i < 0 then -i else i))
  | .minT, [.list (e :: es)] => if comparable (e :: es) then some (PySem.W.minD e es) else none
  | .int, [.str x] => if x.length ≤ 640 then (PySem.intText? x).map .int else none
  | .str, [.int i] => if -1000 ≤ i ∧ i ≤ 1000 then some (.str (toString i)) else none
  | _, _ => none
section
variable {X : Cx}
theorem Rps.one {K W H} {xs : List V} {d : D} (r : Rps K W H xs [d]) : ∃ v, xs = [v] ∧ Rp K W H v d := by
  cases r with | cons a b => cases b; exact ⟨_, rfl, a⟩
theorem Rps.two {K W H} {xs : List V} {d e : D} (r : Rps K W H xs [d, e]) : ∃ v u, xs = [v, u] ∧ Rp K W H v d ∧ Rp K W H u e := by
  cases r with | cons a b => cases b with | cons c f => cases f; exact ⟨_, _, rfl, a, c⟩
theorem Rps.lenV {K W H} {vs : List V} {ds : List D} (r : Rps K W H vs ds) : vs.length = ds.length := r.length
theorem bt_len : CallR X (.builtin "len") (rDn X.K Bt.len.den) := by
  rintro pins s σ H xs us Q I ru ⟨W, ds, d, rs, dom, e, k⟩
  match ds, e with
  | [.list es], e =>
    cases e
    obtain ⟨v, rfl, r⟩ := rs.one
    obtain ⟨a, ys, rfl, na, ha, ra⟩ := r.inv_lst
    refine call_len_seq pins s σ H _ us Q I ru ⟨a, ys, rfl, .inl (SqL.of ha), ?_⟩
    rw [ra.length]
    exact k _ _ (Ex.rfl' H) (.int _)
  | [.tuple es], e =>
    cases e
    obtain ⟨v, rfl, r⟩ := rs.one
    obtain ⟨a, ys, rfl, ha, ra⟩ := r.inv_tup
    refine call_len_seq pins s σ H _ us Q I ru ⟨a, ys, rfl, .inr ha.sq, ?_⟩
    rw [ra.length]
    exact k _ _ (Ex.rfl' H) (.int _)
  | [.str z], e =>
    cases e
    obtain ⟨v, rfl, r⟩ := rs.one
    cases r with | str _ hz =>
    exact call_len_str pins s σ H _ us Q I ru ⟨z, rfl, hz.len, k _ _ (Ex.rfl' H) (.int _)⟩
theorem bt_tuple : CallR X (.type "tuple") (rDn X.K Bt.tuple.den) := by
  rintro pins s σ H xs us Q I ru ⟨W, ds, d, rs, dom, e, k⟩
  match ds, e with
  | [.list es], e =>
    cases e
    obtain ⟨v, rfl, r⟩ := rs.one
    obtain ⟨a, ys, rfl, na, ha, ra⟩ := r.inv_lst
    exact call_tuple_of pins s σ H _ us Q I ru ⟨a, ys, rfl, .inl ⟨SqL.of ha, fun p hp => k _ _ (Ex.new hp) (Rp.newT (nW dom hp) hp ra)⟩⟩
  | [.tuple es], e =>
    cases e
    obtain ⟨v, rfl, r⟩ := rs.one
    obtain ⟨a, ys, rfl, ha, ra⟩ := id r.inv_tup
    exact call_tuple_of pins s σ H _ us Q I ru ⟨a, ys, rfl, .inr ⟨ha.sq, k _ _ (Ex.rfl' H) r⟩⟩
theorem bt_list : CallR X (.type "list") (rDn X.K Bt.list.den) := by
  rintro pins s σ H xs us Q I ru ⟨W, ds, d, rs, dom, e, k⟩
  match ds, e with
  | [.list es], e =>
    cases e
    obtain ⟨v, rfl, r⟩ := rs.one
    obtain ⟨a, ys, rfl, na, ha, ra⟩ := r.inv_lst
    exact call_list_of pins s σ H _ us Q I ru ⟨a, ys, rfl, .inl (SqL.of ha), fun p hp => k _ _ (Ex.new hp) (Rp.newL (nW dom hp) hp ra)⟩
  | [.tuple es], e =>
    cases e
    obtain ⟨v, rfl, r⟩ := rs.one
    obtain ⟨a, ys, rfl, ha, ra⟩ := r.inv_tup
    exact call_list_of pins s σ H _ us Q I ru ⟨a, ys, rfl, .inr ha.sq, fun p hp => k _ _ (Ex.new hp) (Rp.newL (nW dom hp) hp ra)⟩
theorem bt_all (hc : X.calm = true) : CallR X (.builtin "all") (rDn X.K Bt.all.den) := by
  rintro pins s σ H xs us Q I ru ⟨W, ds, d, rs, dom, e, k⟩
  match ds, e with
  | [.list es], e =>
    obtain ⟨bs, e1, e2⟩ := Option.map_eq_some_iff.mp e
    subst e2
    obtain ⟨v, rfl, r⟩ := rs.one
    obtain ⟨a, ys, rfl, na, ha, ra⟩ := r.inv_lst
    rw [blsOf_eq e1] at ra
    rw [ra.bls] at ha
    exact cr_all hc pins s σ H _ us Q I ru ⟨a, bs, rfl, SqL.of ha, k _ _ (Ex.rfl' H) (.bl _)⟩
theorem bt_any (hc : X.calm = true) : CallR X (.builtin "any") (rDn X.K Bt.any.den) := by
  rintro pins s σ H xs us Q I ru ⟨W, ds, d, rs, dom, e, k⟩
  match ds, e with
  | [.list es], e =>
    obtain ⟨bs, e1, e2⟩ := Option.map_eq_some_iff.mp e
    subst e2
    obtain ⟨v, rfl, r⟩ := rs.one
    obtain ⟨a, ys, rfl, na, ha, ra⟩ := r.inv_lst
    rw [blsOf_eq e1] at ra
    rw [ra.bls] at ha
    exact cr_any hc pins s σ H _ us Q I ru ⟨a, bs, rfl, SqL.of ha, k _ _ (Ex.rfl' H) (.bl _)⟩
theorem max_if (i j : Int) : (if j > i then j else i) = max i j := by omega
theorem min_if (i j : Int) : (if j < i then j else i) = min i j := by omega
theorem bt_max (hc : X.calm = true) : CallR X (.builtin "max") (rDn X.K Bt.max.den) := by
  rintro pins s σ H xs us Q I ru ⟨W, ds, d, rs, dom, e, k⟩
  match ds, e with
  | [.int i, .int j], e =>
    cases e
    obtain ⟨v, u, rfl, r1, r2⟩ := rs.two
    cases r1; cases r2
    refine call_max2 hc pins s σ H _ us Q I ru ⟨i, j, rfl, ?_⟩
    rw [max_if]
    exact k _ _ (Ex.rfl' H) (.int _)
  | [.list es], e =>
    obtain ⟨ns, e1, e2⟩ := Option.bind_eq_some_iff.mp e
    obtain ⟨v, rfl, r⟩ := rs.one
    obtain ⟨a, ys, rfl, na, ha, ra⟩ := r.inv_lst
    rw [intsOf_eq e1] at ra
    rw [ra.ints] at ha
    cases ns with
    | nil => cases e2
    | cons n r =>
      cases e2
      refine cr_max hc pins s σ H _ us Q I ru ⟨a, _, rfl, SqL.of ha, by simp, fun m h1 h2 => ?_⟩
      rw [maxL_is h1 h2] at k
      exact k _ _ (Ex.rfl' H) (.int _)
theorem bt_min (hc : X.calm = true) : CallR X (.builtin "min") (rDn X.K Bt.min.den) := by
  rintro pins s σ H xs us Q I ru ⟨W, ds, d, rs, dom, e, k⟩
  match ds, e with
  | [.int i, .int j], e =>
    cases e
    obtain ⟨v, u, rfl, r1, r2⟩ := rs.two
    cases r1; cases r2
    refine call_min2 hc pins s σ H _ us Q I ru ⟨i, j, rfl, ?_⟩
    rw [min_if]
    exact k _ _ (Ex.rfl' H) (.int _)
  | [.list es], e =>
    obtain ⟨ns, e1, e2⟩ := Option.bind_eq_some_iff.mp e
    obtain ⟨v, rfl, r⟩ := rs.one
    obtain ⟨a, ys, rfl, na, ha, ra⟩ := r.inv_lst
    rw [intsOf_eq e1] at ra
    rw [ra.ints] at ha
    cases ns with
    | nil => cases e2
    | cons n r =>
      cases e2
      refine cr_min hc pins s σ H _ us Q I ru ⟨a, _, rfl, SqL.of ha, by simp, fun m h1 h2 => ?_⟩
      rw [minL_is h1 h2] at k
      exact k _ _ (Ex.rfl' H) (.int _)
theorem bt_sum (hc : X.calm = true) : CallR X (.builtin "sum") (rDn X.K Bt.sum.den) := by
  rintro pins s σ H xs us Q I ru ⟨W, ds, d, rs, dom, e, k⟩
  match ds, e with
  | [.list es], e =>
    obtain ⟨bs, e1, e2⟩ := Option.map_eq_some_iff.mp e
    subst e2
    obtain ⟨v, rfl, r⟩ := rs.one
    obtain ⟨a, ys, rfl, na, ha, ra⟩ := r.inv_lst
    rw [intsOf_eq e1] at ra
    rw [ra.ints] at ha
    exact cr_sum hc pins s σ H _ us Q I ru ⟨a, bs, rfl, SqL.of ha, k _ _ (Ex.rfl' H) (.int _)⟩
/-! sorted -/
theorem each_of {P : Program} {w : World} {K : PySem.W.Frag} {W : AP} {H : Hp} {h : Heap} (hh : ∀ (v : V) (d : D) (u : Value), Rp K W H v d → RelV v u → ∃ as, Reads h u d as) : ∀ {vs : List V} {ds : List D} {us : List Value}, Rps K W H vs ds → Vals vs us →
    PySem.W.EachIs (fun (u : Value) (b : V × D) => RelV b.1 u ∧ Rp K W H b.1 b.2) us (vs.zip ds) ∧ PySem.W.EachIs (fun (u : Value) (b : V × D) => ∃ as, Reads h u b.2 as) us (vs.zip ds)
  | _, _, _, .nil, .nil => ⟨.nil, .nil⟩
  | _, _, _, .cons a b, .cons c d =>
    have ih := each_of (P := P) (w := w) hh b d
    ⟨.cons ⟨c, a⟩ ih.1, .cons (hh _ _ _ a c) ih.2⟩
theorem each_back {K : PySem.W.Frag} {W : AP} {H : Hp} : ∀ {us : List Value} {bs : List (V × D)}, PySem.W.EachIs (fun (u : Value) (b : V × D) => RelV b.1 u ∧ Rp K W H b.1 b.2) us bs → Vals (bs.map (·.1)) us ∧ Rps K W H (bs.map (·.1)) (bs.map (·.2))
  | _, _, .nil => ⟨.nil, .nil⟩
  | _, _, .cons a b => ⟨.cons a.1 (each_back b).1, .cons a.2 (each_back b).2⟩
theorem zip_snd {α β : Type} : ∀ {l : List α} {m : List β}, l.length = m.length → (l.zip m).map (·.2) = m
  | [], [], _ => rfl
  | a :: l, b :: m, h => by
    show b :: (l.zip m).map (·.2) = b :: m
    rw [zip_snd (by simpa using h)]
theorem vals_back : ∀ {xs : List V} {us : List Value} {i : Nat} {u : Value}, Vals xs us → us[i]? = some u → ∃ x, xs[i]? = some x ∧ RelV x u
  | _, _, i, _, .nil, h => by simp at h
  | _, _, 0, _, .cons a b, h => by
    simp at h; subst h
    exact ⟨_, rfl, a⟩
  | _, _, i + 1, _, .cons a b, h => by
    simp at h
    obtain ⟨x, h1, h2⟩ := vals_back b h
    exact ⟨x, by simpa using h1, h2⟩
theorem rps_back {K : PySem.W.Frag} {W : AP} {H : Hp} : ∀ {vs : List V} {ds : List D} {i : Nat} {v : V}, Rps K W H vs ds → vs[i]? = some v → ∃ d, ds[i]? = some d ∧ Rp K W H v d
  | _, _, i, _, .nil, h => by simp at h
  | _, _, 0, _, .cons a b, h => by
    simp at h; subst h
    exact ⟨_, rfl, a⟩
  | _, _, i + 1, _, .cons a b, h => by
    simp at h
    obtain ⟨x, h1, h2⟩ := rps_back b h
    exact ⟨x, by simpa using h1, h2⟩
/-- the texts of small ints -/
def okTxt (i : Int) : Bool := ((toString i : Str).cps.all (· < 0x110000)) && decide ((toString i : Str).length ≤ 100)
theorem okTxt_all : ((List.range 2001).all fun n => okTxt ((n : Int) - 1000)) = true := by decide +kernel
theorem strok_int {i : Int} (h : -1000 ≤ i ∧ i ≤ 1000) : StrOk (toString i : Str) := by
  have := List.all_eq_true.mp okTxt_all (i + 1000).toNat (List.mem_range.mpr (by omega))
  have e : (((i + 1000).toNat : Nat) : Int) - 1000 = i := by omega
  rw [e] at this
  unfold okTxt at this
  simp only [Bool.and_eq_true, decide_eq_true_eq] at this
  exact ⟨this.1, by rw [sizeLine_eq]; omega⟩
theorem minD_mem (x : D) : ∀ xs : List D, PySem.W.minD x xs ∈ x :: xs := fun xs => by
  unfold PySem.W.minD
  induction xs generalizing x with
  | nil => exact List.mem_cons_self
  | cons y ys ih =>
    rw [List.foldl_cons]
    have := ih (if PySem.W.dataLt y x = true then y else x)
    rcases List.mem_cons.mp this with h | h
    · rw [h]
      split
      · exact List.mem_cons_of_mem _ List.mem_cons_self
      · exact List.mem_cons_self
    · exact List.mem_cons_of_mem _ (List.mem_cons_of_mem _ h)
theorem depthAll_le {n : Nat} : ∀ {ds : List D}, (∀ d ∈ ds, d.depth ≤ n) → PyData.depthAll ds ≤ n
  | [], _ => by simp [PyData.depthAll]
  | d :: ds, h => by
    rw [PyData.depthAll]
    have h1 := h d List.mem_cons_self
    have h2 := depthAll_le (n := n) fun e he => h e (List.mem_cons_of_mem _ he)
    omega
theorem bt_minT (hc : X.calm = true) (hu : X.A.units + 64 < cLine) : CallR X (.builtin "min") (rDn X.K Bt.minT.den) := by
  rintro pins s σ H xs us Q I ru ⟨W, ds, d, rs, dom, e, k⟩
  match ds, e with
  | [.list (f :: es)], e =>
    simp only [Bt.den] at e
    split at e
    · rename_i hs
      cases e
      unfold comparable at hs
      simp only [Bool.and_eq_true, List.all_eq_true, decide_eq_true_eq, Bool.not_eq_true'] at hs
      obtain ⟨hal, hnn, hdp⟩ := hs
      obtain ⟨v, rfl, r⟩ := rs.one
      obtain ⟨a, ys, rfl, na, ha, ra⟩ := r.inv_lst
      obtain ⟨its, rv, hl, hz⟩ := I.list (SqL.of ha)
      rw [Vals.ref1 ru]
      have hlen := ra.length
      have hzip : (ys.zip (f :: es)).map (·.2) = f :: es := zip_snd hlen
      obtain ⟨e1, e2⟩ := each_of (P := X.prog) (w := X.w) (K := X.K) (W := W) (H := H) (h := s.heap) (fun v d u rp rl => Dp.reads I d v u rp.dp rl) ra rv
      obtain ⟨as, hr⟩ := PySem.W.each_readsAll (enc := fun b : V × D => b.2) e2
      rw [hzip] at hr
      refine PySem.W.min_list_data (x := f) (xs := es) (I.ok.hd hc) hl.isList (by simpa using hr) ⟨fun x hx y hy => hal x hx y hy, fun x hx z => ?_⟩ ?_ fun i v h' tk bs hi rd hk => ?_
      · have := hnn x hx
        rw [z] at this; cases this
      · have := depthAll_le hdp
        show X.A.units + 1 + _ < _
        omega
      · have hi' : its[i]? = some v := by simpa using hi
        obtain ⟨y, hy, ry⟩ := vals_back rv hi'
        obtain ⟨dd, hd, rd'⟩ := rps_back ra hy
        obtain ⟨cs, r1⟩ := Dp.reads I dd y v rd'.dp ry
        have hm : dd ∈ f :: es := List.mem_of_getElem? hd
        have eq : dd = PySem.W.minD f es := PySem.W.alike_unique dd _ v cs bs (hal _ hm _ (minD_mem f es)) (PySem.W.reads_keeps hk r1) rd
        rw [eq] at rd'
        exact ⟨y, H, I.kept (t' := tk) hk, ry, k _ _ (Ex.rfl' H) rd'⟩
    · cases e
theorem bt_str : CallR X (.type "str") (rDn X.K Bt.str.den) := by
  rintro pins s σ H xs us Q I ru ⟨W, ds, d, rs, dom, e, k⟩
  match ds, e with
  | [.int i], e =>
    simp only [Bt.den] at e
    split at e
    · rename_i hi
      cases e
      obtain ⟨v, rfl, r⟩ := rs.one
      cases r
      have h3 : i.natAbs.log2 < 1920 := by
        have h1 : i.natAbs ≤ 1000 := by omega
        have h2 : i.natAbs.log2 ≤ i.natAbs := Nat.log2_le_self _
        omega
      exact call_str_int pins s σ H _ us Q I ru ⟨i, rfl, h3, k _ _ (Ex.rfl' H) (.str _ (strok_int hi))⟩
    · cases e
theorem bt_int : CallR X (.type "int") (rDn X.K Bt.int.den) := by
  rintro pins s σ H xs us Q I ru ⟨W, ds, d, rs, dom, e, k⟩
  match ds, e with
  | [.int i], e =>
    cases e
    obtain ⟨v, rfl, r⟩ := rs.one
    cases r
    exact call_int1 pins s σ H _ us Q I ru (.inl ⟨i, rfl, k _ _ (Ex.rfl' H) (.int _)⟩)
  | [.bool b], e =>
    cases e
    obtain ⟨v, rfl, r⟩ := rs.one
    cases r
    exact call_int1 pins s σ H _ us Q I ru (.inr ⟨b, rfl, k _ _ (Ex.rfl' H) (.int _)⟩)
  | [.str z], e =>
    simp only [Bt.den] at e
    split at e
    · rename_i hz
      obtain ⟨n, e1, e2⟩ := Option.map_eq_some_iff.mp e
      subst e2
      obtain ⟨v, rfl, r⟩ := rs.one
      cases r
      exact call_int_str pins s σ H _ us Q I ru ⟨z, n, rfl, e1, hz, k _ _ (Ex.rfl' H) (.int _)⟩
    · cases e
theorem bt_abs : CallR X (.builtin "abs") (rDn X.K Bt.abs.den) := by
  rintro pins s σ H xs us Q I ru ⟨W, ds, d, rs, dom, e, k⟩
  match ds, e with
  | [.int i], e =>
    cases e
    obtain ⟨v, rfl, r⟩ := rs.one
    cases r
    exact call_abs pins s σ H _ us Q I ru ⟨i, rfl, k _ _ (Ex.rfl' H) (.int _)⟩
theorem bt_sorted (hu : X.A.units + 64 < cLine) : CallR X (.builtin "sorted") (rDn X.K Bt.sorted.den) := by
  rintro pins s σ H xs us Q I ru ⟨W, ds, d, rs, dom, e, k⟩
  match ds, e with
  | [.list es], e =>
    obtain ⟨v, rfl, r⟩ := rs.one
    obtain ⟨a, ys, rfl, na, ha, ra⟩ := r.inv_lst
    simp only [Bt.den] at e
    rw [msortF_eq _ _ (Nat.le_refl _)] at e
    split at e
    · rename_i hs
      cases e
      unfold sortable at hs
      simp only [Bool.and_eq_true, Bool.or_eq_true, List.all_eq_true, decide_eq_true_eq] at hs
      obtain ⟨⟨hk, hal⟩, hdp⟩ := hs
      obtain ⟨its, rv, hl, hz⟩ := I.list (SqL.of ha)
      rw [Vals.ref1 ru]
      have hlen := ra.length
      have hzip : (ys.zip es).map (·.2) = es := zip_snd hlen
      obtain ⟨e1, e2⟩ := each_of (P := X.prog) (w := X.w) (K := X.K) (W := W) (H := H) (h := s.heap) (fun v d u rp rl => Dp.reads I d v u rp.dp rl) ra rv
      refine PySem.W.sorted_data (bs := ys.zip es) (enc := (·.2)) hl.isList e1 e2 ?_ ?_ ?_ (fun b hb => ?_) fun out ho hout => ?_
      · rw [hzip]
        exact fun d hd d' hd' => hal d hd d' hd'
      · rw [hzip]
        rcases hk with hk | hk
        · refine .inl fun d hd => ?_
          have := hk d hd
          match d, this with
          | .tuple (x :: r), _ => exact ⟨x, r, rfl⟩
        · refine .inr fun d hd => ⟨fun z => ?_, fun xs z => ?_⟩
          · have := hk d hd; rw [z] at this; cases this
          · have := hk d hd; rw [z] at this; cases this
      · have : (ys.zip es).length ≤ ys.length := by rw [List.length_zip]; omega
        omega
      · have hm : b.2 ∈ es := by rw [← hzip]; exact List.mem_map.mpr ⟨b, hb, rfl⟩
        have := hdp _ hm
        show X.A.units + 2 + b.2.depth < cLine
        omega
      · obtain ⟨b1, b2⟩ := each_back hout
        obtain ⟨ep, he'⟩ := PyProof.Rows.sortedAll_at s.heap its out.toArray
        have em : ((ys.zip es).mergeSort (PySem.W.dataLe false (·.2))).map (·.2) = es.mergeSort dle := by
          have := PySem.W.sort_maps (r := PySem.W.dataLe false (fun b : V × D => b.2)) (s := dle) (·.2) (l := ys.zip es) (fun a _ b _ => rfl)
          rw [hzip] at this
          exact this
        rw [em] at b2
        have hl2 : (((ys.zip es).mergeSort (PySem.W.dataLe false (·.2))).map (·.1)).length ≤ sizeLine := by
          rw [List.length_map, List.length_mergeSort, List.length_zip]
          omega
        exact ⟨.ref _, upd H (s.heap.objs.size + 1) (.lst _), I.laid (t' := s.toks) (fun _ _ => PyProof.Rows.sortedAll_old) (Nat.le_succ _) ⟨hl2, out, ep, b1, he'⟩, rfl, k _ _ (Ex.new (I.hok.fresh (Nat.le_succ _))) (Rp.newL (nW dom (I.hok.fresh (Nat.le_succ _))) (I.hok.fresh (Nat.le_succ _)) b2)⟩
    · cases e
theorem Bt.ok (hc : X.calm = true) (hu : X.A.units + 64 < cLine) (b : Bt) : CallR X b.val (rDn X.K b.den) := by
  cases b
  · exact bt_len
  · exact bt_tuple
  · exact bt_list
  · exact bt_all hc
  · exact bt_any hc
  · exact bt_max hc
  · exact bt_min hc
  · exact bt_sum hc
  · exact bt_sorted hu
  · exact bt_int
  · exact bt_abs
  · exact bt_minT hc hu
  · exact bt_str
theorem Bt.boot (b : Bt) : bootBuiltins b.name = some b.val := by cases b <;> decide +kernel
theorem Bt.nn (b : Bt) : b.name ≠ "__name__" := by cases b <;> decide +kernel
theorem Bt.nd (b : Bt) : (b.name == ("__debug__" : Str)) = false := by cases b <;> decide +kernel
/-! isinstance -/
inductive Ty where
  | int | bool | tuple | str
  deriving DecidableEq
def Ty.nm : Ty → String
  | .int => "int" | .bool => "bool" | .tuple => "tuple" | .str => "str"
def Ty.name : Ty → Str
  | .int => "int" | .bool => "bool" | .tuple => "tuple" | .str => "str"
def isiD (t : Ty) (d : D) : Bool := match t, d with
  | .int, .int _ => true
  | .int, .bool _ => true
  | .bool, .bool _ => true
  | .tuple, .tuple _ => true
  | .str, .str _ => true
  | _, _ => false
def tyN : D → String
  | .none => "NoneType" | .bool _ => "bool" | .int _ => "int" | .str _ => "str" | .list _ => "list" | .tuple _ => "tuple" | .dict _ => "dict"
theorem kitOk {K : PySem.W.Frag} (t : Ty) (d : D) (h : ∀ kv, d ≠ .dict kv) : PySem.W.kitOne K (.type (tyN d)) (.type t.nm) = some (isiD t d) := by
  have h1 : ∀ t : Ty, kitB "NoneType" t.nm = some false := by intro t; cases t <;> decide +kernel
  have h2 : ∀ t : Ty, kitB "bool" t.nm = some (match t with | .int => true | .bool => true | _ => false) := by intro t; cases t <;> decide +kernel
  have h3 : ∀ t : Ty, kitB "int" t.nm = some (match t with | .int => true | _ => false) := by intro t; cases t <;> decide +kernel
  have h4 : ∀ t : Ty, kitB "str" t.nm = some (match t with | .str => true | _ => false) := by intro t; cases t <;> decide +kernel
  have h5 : ∀ t : Ty, kitB "list" t.nm = some false := by intro t; cases t <;> decide +kernel
  have h6 : ∀ t : Ty, kitB "tuple" t.nm = some (match t with | .tuple => true | _ => false) := by intro t; cases t <;> decide +kernel
  cases d with
  | none => exact kit_ty ((h1 t).trans (by cases t <;> rfl))
  | bool b => exact kit_ty ((h2 t).trans (by cases t <;> rfl))
  | int b => exact kit_ty ((h3 t).trans (by cases t <;> rfl))
  | str b => exact kit_ty ((h4 t).trans (by cases t <;> rfl))
  | list b => exact kit_ty ((h5 t).trans (by cases t <;> rfl))
  | tuple b => exact kit_ty ((h6 t).trans (by cases t <;> rfl))
  | dict kv => exact absurd rfl (h kv)
theorem Ty.boot (b : Ty) : bootBuiltins b.name = some (.type b.nm) := by cases b <;> decide +kernel
theorem Ty.nn (b : Ty) : b.name ≠ "__name__" := by cases b <;> decide +kernel
theorem Ty.nd (b : Ty) : (b.name == ("__debug__" : Str)) = false := by cases b <;> decide +kernel
theorem isi_ok {pins : List (Addr × Obj)} {s : Shared} {σ : St} {H : Hp} {E : Value → Shared → Prop} {Q : Value → Shared → Prop} {W : AP} {x : V} {u : Value} {d : D} (t : Ty) (I : Inv X pins σ H s) (rx : RelV x u) (r : Rp X.K W H x d) (h : ∀ tk, Q (.bool (isiD t d)) { s with toks := tk }) :
    wpAny (model X.prog X.w) X.A (call (.builtin "isinstance") [u, .type t.nm]) Q E s := by
  cases r with
  | non => exact isinst_ok I rx .non (kitOk t .none (fun _ z => nomatch z)) h
  | bl b => exact isinst_ok I rx (.bl b) (kitOk t (.bool b) (fun _ z => nomatch z)) h
  | int i => exact isinst_ok I rx (.int i) (kitOk t (.int i) (fun _ z => nomatch z)) h
  | str y _ => exact isinst_ok I rx (.str y) (kitOk t (.str y) (fun _ z => nomatch z)) h
  | @lst a xs ds _ ha _ => exact isinst_ok I rx (.lst ha) (kitOk t (.list ds) (fun _ z => nomatch z)) h
  | @tup a xs ds ha _ =>
    cases (show u = Value.ref a from rx)
    obtain ⟨its, _, ⟨o, h1, h2, _⟩, _⟩ := I.tuple ha.sq
    exact PySem.W.kia_one PySem.W.kitx_tuple I.kIn ⟨o, h1, h2⟩ (kitOk t (.tuple ds) (fun _ z => nomatch z)) (fun z => nomatch z) h
end
end Dm
namespace Dm
open PySem PySem.Spec PyProof.Rows L2 LamX
/-! ### enumerate(tuple) -/
theorem meets_enum1 {v : Value} {o : Obj} {H : Heap → Prop} (B : Begins v o H) :
    Meets (Builtin.«enumerate.__new__» ⟨[.type "enumerate", v], []⟩) (fun _ R s => H s.heap ∧
      R (.ok (.ret (.ref (s.heap.push o).objs.size))) { s with heap := (s.heap.push o).push { cls := .type "enumerate", data := .fields #[.none, .bool false, .ref s.heap.objs.size, rawInt 0, .none, .none] } }) :=
  .of_wp fun prog w A R s h => by
    obtain ⟨hp, g, d, tk, os⟩ := s; obtain ⟨h1, h⟩ := h
    have hsub := sub_enumerate
    have q1 : ∀ {A' : Around} {E : Value → Shared → Prop} {Q : Value → Shared → Prop}, Q (.ref hp.objs.size) ⟨hp.push o, g, d, tk, os⟩ → wpAny (model prog w) A' (pyIter v) Q E ⟨hp, g, d, tk, os⟩ :=
      fun q => B.iter prog w _ _ ⟨hp, g, d, tk, os⟩ _ h1 q
    wp_walk using q1
    refine wpAny_stack_any fun st => wpAny_pure ?_
    split
    · rename_i c _ _ _ _ _
      cases (c == Value.type "enumerate")
      · wp_walk using q1
        exact ⟨_, rfl, h⟩
      · wp_walk using q1
        exact ⟨_, rfl, h⟩
    · wp_walk using q1
      exact ⟨_, rfl, h⟩
section
variable {prog : Program} {w : World} {A : Around} {E : Value → Shared → Prop} {s : Shared}
theorem enum_begins1 {v : Value} {o : Obj} {H : Heap → Prop} {Q : Value → Shared → Prop} (B : Begins v o H) (h1 : H s.heap)
    (h : ∀ h', IsEnum h' (s.heap.objs.size + 1) s.heap.objs.size 0 .none → h'.get? s.heap.objs.size = some o → h'.objs.size = s.heap.objs.size + 2 →
      (∀ b o, s.heap.get? b = some o → h'.get? b = some o) → Q (.ref (s.heap.objs.size + 1)) { s with heap := h' }) :
    wpAny (model prog w) A (call (.type "enumerate") [v]) Q E s := by
  refine callType_new F.called_enumerate (by decide) (F.typeCall_enumerate_1 _) (F.newCall_enumerate_1 _) (fun obj => F.args_object_init_2 obj _) F.entry_enumerate_new
    (meets_enum1 B) ⟨h1, ?_⟩
  have hz : (s.heap.push o).objs.size = s.heap.objs.size + 1 := Heap.size_push ..
  show _ ∧ _
  rw [hz]
  have he : IsEnum ((s.heap.push o).push { cls := .type "enumerate", data := .fields #[.none, .bool false, .ref s.heap.objs.size, rawInt 0, .none, .none] }) (s.heap.objs.size + 1) s.heap.objs.size 0 .none := by
    have := Heap.get?_push_size (s.heap.push o) (o := { cls := .type "enumerate", data := .fields #[.none, .bool false, .ref s.heap.objs.size, rawInt 0, .none, .none] }) rfl
    rw [hz] at this; exact this
  refine ⟨⟨_, he, rfl⟩, h _ he (Heap.get?_push_of_some _ (Heap.get?_push_size _ B.free)) (by rw [Heap.size_push, hz]) fun b o x => Heap.get?_push_of_some _ (Heap.get?_push_of_some _ x)⟩
end
/-- the tuple at a as it stands at each turn, each item in a new pair -/
def IteT (K : PySem.W.Frag) (a : Addr) : L2.It :=
  ⟨fun i H => ∃ (xs : List V) (x : V), SqT K H a xs ∧ xs[i]? = some x, fun i H v H' => ∃ T x, v = .ref T ∧ H T = none ∧ H' = upd H T (.tup [.int (i : Nat), x]) ∧ ∀ xs, SqT K H a xs → xs[i]? = some x, fun i H => ∃ xs : List V, SqT K H a xs ∧ xs.length ≤ i⟩
theorem turn_enumT {P : Program} {w : World} {K : PySem.W.Frag} {elts : List Expr} {kk : Nat} {tpos : Pos} (a e it : Addr) :
    Turn P w K (.Tuple elts kk tpos) (IteT K a) [e, it] e (fun i h => (∃ old, IsEnum h e it ((i : Nat) : Int) old) ∧ h.IsTupleIter it a i ∧ e ≠ it) where
  mem := by simp
  obj := fun i h st b hb => by
    obtain ⟨⟨old, he⟩, ⟨o, ho, hc, hd⟩, _⟩ := st
    have e' : b = e ∨ b = it := by simpa using hb
    rcases e' with z | z
    · rw [z]; exact ⟨_, he, fun v q => nomatch q⟩
    · rw [z]; exact ⟨o, ho, fun v q => by rw [hd] at q; cases q⟩
  keep := fun i h h' st k => let ⟨⟨old, he⟩, hi, hne⟩ := st; ⟨⟨old, k e (by simp) _ he⟩, hi.at fun o q => k it (by simp) o q, hne⟩
  item := by
    intro X hP hw hK hc i pins s σ H E I hf st hg
    subst hP hw hK
    obtain ⟨⟨old, he⟩, hit, hne⟩ := st
    obtain ⟨xs, x, hq, hx⟩ := hg
    obtain ⟨its, rv, p, hz⟩ := I.tuple hq
    obtain ⟨u, hu, ru⟩ := rv.get hx
    have hel : e < s.heap.objs.size := Heap.lt_size he
    have hil : it < s.heap.objs.size := by obtain ⟨_, q, _⟩ := hit; exact Heap.lt_size q
    have hpt : s.heap.IsTuple a its.toArray := p
    have hae : a ≠ it := fun z => by
      obtain ⟨o1, q1, q2, n, q3⟩ := hpt
      obtain ⟨o2, r1, r2, r3⟩ := hit
      rw [z, r1] at q1; cases q1; rw [r3] at q3; cases q3
    have hae2 : a ≠ e := fun z => by
      obtain ⟨o1, q1, q2, n, q3⟩ := hpt
      rw [z, he] at q1; cases q1; cases q3
    have hi : i < its.toArray.size := by rw [List.size_toArray]; exact (List.getElem?_eq_some_iff.mp hu).1
    refine wpAny_pyNext_enum_itemD (Draws.tuple (A := X.A.in1) (I.ok.hd hc) it a hae its.toArray) he ⟨hit, hpt⟩ hi hne (by simp [hne, Ne.symm hae2]) fun y h' tk hy ho hst' hT hsz hk => ?_
    have ey : y = u := by
      have : its.toArray[i]? = some u := by simpa using hu
      rw [this] at hy; exact (Option.some.inj hy).symm
    subst ey
    obtain ⟨hit', _⟩ := hst'
    refine ⟨_, rfl, wpAny_letOwnedTupleGo_enum (s := { s with heap := h', toks := tk + 1 }) ho fun h'' he' sb => ?_⟩
    have hT2 : h''.get? s.heap.objs.size = some { cls := .type "tuple", data := .seq #[.int i tk, y] } := (sb.2 _ (Nat.ne_of_gt hel)).trans hT
    have new : ObjOk X.prog X.w (upd H s.heap.objs.size (.tup [.int (i : Nat), x])) h'' s.heap.objs.size (.tup [.int (i : Nat), x]) :=
      ⟨by show 2 ≤ sizeLine; decide, [.int i tk, y], .cons ⟨_, rfl⟩ (.cons ru .nil), ⟨_, hT2, rfl, _, rfl⟩⟩
    have I1 : Inv X pins σ (upd H s.heap.objs.size (.tup [.int (i : Nat), x])) { s with heap := h'', toks := tk + 1 } :=
      I.turnedNew (ch := [e, it]) (fun b ob hb q => (sb.2 b (fun z => hb (by simp [z]))).trans (hk b ob (fun z => hb (by simp [z])) (fun z => hb (by simp [z])) q)) hf (Nat.le_refl _) new
    refine ⟨.ref s.heap.objs.size, _, I1, rfl, ⟨_, x, rfl, I.hok.fresh (Nat.le_refl _), rfl, fun ys hy => by rw [I.tuple_inj hy hq]; exact hx⟩, ⟨⟨y, ?_⟩, hit'.at fun o q => (sb.2 it (Ne.symm hne)).trans q, hne⟩, fun b hb => ?_⟩
    · have e1 : ((i + 1 : Nat) : Int) = (i : Int) + 1 := by omega
      rw [e1]; exact he'
    · have hb' : b < s.heap.objs.size := by
        have e' : b = e ∨ b = it := by simpa using hb
        rcases e' with z | z
        · rw [z]; exact hel
        · rw [z]; exact hil
      rw [upd_ne (Nat.ne_of_lt hb')]
      exact (hf b hb).1
  done := by
    intro X hP hw hK hc i pins s σ H E I hf st hg
    subst hP hw hK
    obtain ⟨⟨old, he⟩, hit, hne⟩ := st
    obtain ⟨xs, hq, hx⟩ := hg
    obtain ⟨its, rv, p, hz⟩ := I.tuple hq
    obtain ⟨f0, f1, f2, f3, f4, f5⟩ := hf it (by simp)
    have hl := rv.length
    have hpt : s.heap.IsTuple a its.toArray := p
    have hT : s.TypeIs (.ref e) "enumerate" := ⟨_, he, rfl⟩
    unfold pyNext
    refine wpAny_bind (wpAny_attempt (wpAny_callSpecial?_slot (name := Str.ofString "__next__") hT F.slot_enumerate_next
      (wpAny_call_entry F.slot_enumerate_next hT F.entry_enumerate_next ?_ (F.args_enumerate_next_1 _))))
    show wpAny _ _ (field (.ref e) 2 >>= _) _ _ _
    refine wpAny_bind (wpAny_field he rfl (x := .ref it) rfl ?_)
    refine wpAny_bind (wpAny_nextOf_tuple_end (I.ok.hd hc) hit hpt (by simp; omega) fun h' x he' hx' => ?_)
    obtain ⟨o, ho, hcc⟩ := hx'
    refine wpAny_bind (wpAny_isInstance (T := "StopIteration") (b := true) ⟨o, ho, hcc⟩ isSubtype_stop ?_)
    exact wpAny_pure ⟨rfl, I.turned (t' := s.toks) (fun b o hb q => he' b o hb q) f0 f1 f3 f4 f5⟩
  self := fun A i s Q E st h => let ⟨⟨_, he⟩, _⟩ := st; wpAny_pyIter_enum he h
def iEnumA (K : PySem.W.Frag) (te : TE) : TI := fun σ H R => te σ H fun v H1 => ∃ a xs, v = .ref a ∧ ((SqL K H1 a xs ∧ R (Ite K a) H1) ∨ (SqT K H1 a xs ∧ R (IteT K a) H1))
theorem pi_enumA {X : Cx} {e : Expr} {te : TE} {p pos tpos : Pos} {elts : List Expr} {kk : Nat} (hg : Gl X "enumerate") (hm : X.mg "enumerate" = none) (he : PE X e te) (hs : starEach [e] X.env = [(false, eval e X.env)]) :
    PI X (.Tuple elts kk tpos) (.Call (.Name "enumerate" p) [e] [] pos) (iEnumA X.K te) := by
  refine ⟨fun pins s σ H R I h => ?_⟩
  have ha : PA X [e] (tCons te tNil) := pa_cons he pa_nil hs
  refine Call_ (ld_blt I hg hm boot_enumerate (PyProof.Rows.callWith_type1 (thn (ha.run pos pins s σ H (fun vs H1 => ∃ a xs, vs = [V.ref a] ∧ ((SqL X.K H1 a xs ∧ R (Ite X.K a) H1) ∨ (SqT X.K H1 a xs ∧ R (IteT X.K a) H1))) I ?_) fun us s1 ⟨vs, H1, I1, r1, q1⟩ => ?_) hs rfl))
  · have q : te σ H fun v H1 => ∃ a xs, [v] = [V.ref a] ∧ ((SqL X.K H1 a xs ∧ R (Ite X.K a) H1) ∨ (SqT X.K H1 a xs ∧ R (IteT X.K a) H1)) := by
      have e2 : (fun (v : V) (H1 : Hp) => ∃ a xs, [v] = [V.ref a] ∧ ((SqL X.K H1 a xs ∧ R (Ite X.K a) H1) ∨ (SqT X.K H1 a xs ∧ R (IteT X.K a) H1))) = (fun v H1 => ∃ a xs, v = V.ref a ∧ ((SqL X.K H1 a xs ∧ R (Ite X.K a) H1) ∨ (SqT X.K H1 a xs ∧ R (IteT X.K a) H1))) := by
        funext v H1
        simp
      rw [e2]
      exact h
    exact q
  obtain ⟨a, xs, ex, q⟩ := q1
  subst ex
  cases r1 with
  | cons r rr =>
    cases rr
    cases r
    rcases q with ⟨hq, q⟩ | ⟨hq, q⟩
    · obtain ⟨its, rv, p', hz⟩ := I1.list hq
      refine call_enumerate_list p'.isList fun h' he hit hsz hk => wpAny_pyIter_enum he ?_
      have I2 : Inv X pins σ H1 { s1 with heap := h' } := I1.kept (t' := s1.toks) hk
      refine ⟨s1.heap.objs.size + 1, [s1.heap.objs.size + 1, s1.heap.objs.size], _, _, H1, rfl, I2, turn_enum a (s1.heap.objs.size + 1) s1.heap.objs.size, ⟨⟨.none, he⟩, hit, Nat.succ_ne_self _⟩, fun b hb => ?_, q⟩
      have e' : b = s1.heap.objs.size + 1 ∨ b = s1.heap.objs.size := by simpa using hb
      have hle : s1.heap.objs.size ≤ b := by
        rcases e' with z | z
        · rw [z]; exact Nat.le_add_right _ _
        · rw [z]; exact Nat.le_refl _
      exact I1.fpOk hle (I1.hok.fresh hle)
    · obtain ⟨its, rv, p', hz⟩ := I1.tuple hq
      have hpt : s1.heap.IsTuple a its.toArray := p'
      refine enum_begins1 (begins_tuple a its.toArray) hpt fun h' he hit hsz hk => wpAny_pyIter_enum he ?_
      have I2 : Inv X pins σ H1 { s1 with heap := h' } := I1.kept (t' := s1.toks) hk
      refine ⟨s1.heap.objs.size + 1, [s1.heap.objs.size + 1, s1.heap.objs.size], _, _, H1, rfl, I2, turn_enumT a (s1.heap.objs.size + 1) s1.heap.objs.size, ⟨⟨.none, he⟩, ⟨_, hit, rfl, rfl⟩, Nat.succ_ne_self _⟩, fun b hb => ?_, q⟩
      have e' : b = s1.heap.objs.size + 1 ∨ b = s1.heap.objs.size := by simpa using hb
      have hle : s1.heap.objs.size ≤ b := by
        rcases e' with z | z
        · rw [z]; exact Nat.le_add_right _ _
        · rw [z]; exact Nat.le_refl _
      exact I1.fpOk hle (I1.hok.fresh hle)
end Dm
namespace Dm
open PySem PySem.Spec PyProof.Rows L2 LamX
/-! ### readings of the semantics itself -/
abbrev XW := Exn → St → Hp → Prop
def tSem (X : Cx) (e : Expr) : TE := fun σ H Q => ∀ pins s, Inv X pins σ H s → wpAny (model X.prog X.w) X.A (eval e X.env) (EP X pins σ Q) X.xe s
def ttSem (X : Cx) (e : Expr) : TT := fun σ H Q => ∀ pins s, Inv X pins σ H s → wpAny (model X.prog X.w) X.A (isTrue e X.env (eval e X.env)) (TP X pins σ Q) X.xe s
def tiSem (X : Cx) (tg e : Expr) : TI := fun σ H R => ∀ pins s, Inv X pins σ H s → wpAny (model X.prog X.w) X.A (eval e X.env) (fun v s1 => wpAny (model X.prog X.w) X.A (pyIter v) (PIE X pins σ tg R) X.xe s1) X.xe s
theorem pe_sem {X : Cx} {e : Expr} : PE X e (tSem X e) := ⟨fun pins s σ H Q I h => h pins s I⟩
theorem pt_sem {X : Cx} {e : Expr} : PT X e (ttSem X e) := ⟨fun pins s σ H Q I h => h pins s I⟩
theorem pi_sem {X : Cx} {tg e : Expr} : PI X tg e (tiSem X tg e) := ⟨fun pins s σ H Q I h => h pins s I⟩
theorem sem_of {X : Cx} {e : Expr} {t : TE} (h : PE X e t) {σ : St} {H : Hp} {Q : VK} (q : t σ H Q) : tSem X e σ H Q := fun pins s I => h.run pins s σ H Q I q
theorem semT_of {X : Cx} {e : Expr} {t : TT} (h : PT X e t) {σ : St} {H : Hp} {Q : Bool → Hp → Prop} (q : t σ H Q) : ttSem X e σ H Q := fun pins s I => h.run pins s σ H Q I q
theorem semI_of {X : Cx} {tg e : Expr} {t : TI} (h : PI X tg e t) {σ : St} {H : Hp} {R : L2.It → Hp → Prop} (q : t σ H R) : tiSem X tg e σ H R := fun pins s I => h.run pins s σ H R I q
abbrev RX (X : Cx) (C : Cxt) := R X.prog X.w X.K C
abbrev SqX (X : Cx) (C : Cxt) := Sq X.prog X.w X.K C
/-- what is wanted of a result -/
def Post {α : Type} (X : Cx) (C : Cxt) (W : XW) (pa : Nat → Addr) (U : AP) (σ : St) (H : Hp) (ρ : Rho) (Y : α → Rho → Hp → Prop) : Res α → Prop
  | .ok a ρ' => ∀ H', SqX X C pa U σ H ρ σ H' ρ' → Y a ρ' H'
  | .exc c ρ' => ∀ H', SqX X C pa U σ H ρ σ H' ρ' → W c σ H'
  | .bad => False
section
variable {X : Cx} {C : Cxt} {W : XW} {pa : Nat → Addr} {U : AP} {σ : St} {H H1 : Hp} {ρ ρ1 : Rho}
theorem Post.shift {α : Type} {Y : α → Rho → Hp → Prop} {r : Res α} (h : Post X C W pa U σ H ρ Y r) (q : SqX X C pa U σ H ρ σ H1 ρ1) : Post X C W pa U σ H1 ρ1 Y r := by
  cases r with
  | ok a ρ' => exact fun H' z => h H' (q.trans z)
  | exc c ρ' => exact fun H' z => h H' (q.trans z)
  | bad => exact h
theorem Post.bind {α β : Type} {Y : β → Rho → Hp → Prop} {Z : α → Rho → Hp → Prop} {r : Res α} {f : α → Rho → Res β} (h : Post X C W pa U σ H ρ Y (r.bind f))
    (k : ∀ a ρ1 H1, SqX X C pa U σ H ρ σ H1 ρ1 → Post X C W pa U σ H1 ρ1 Y (f a ρ1) → Z a ρ1 H1) : Post X C W pa U σ H ρ Z r := by
  cases r with
  | ok a ρ' => exact fun H' z => k a ρ' H' z (Post.shift (X := X) (C := C) h z)
  | exc c ρ' => exact h
  | bad => exact h
theorem Post.mono {α : Type} {Y Z : α → Rho → Hp → Prop} {r : Res α} (h : Post X C W pa U σ H ρ Y r) (k : ∀ a ρ1 H1, SqX X C pa U σ H ρ σ H1 ρ1 → Y a ρ1 H1 → Z a ρ1 H1) : Post X C W pa U σ H ρ Z r := by
  cases r with
  | ok a ρ' => exact fun H' z => k a ρ' H' z (h H' z)
  | exc c ρ' => exact h
  | bad => exact h
/-- a primitive's end -/
theorem Post.lift {Q : D → Rho → Hp → Prop} {o : Option D} (r : RX X C pa U σ H ρ) (h : Post X C W pa U σ H ρ Q (lift o ρ)) : ∃ d, o = some d ∧ ∀ H', Ex H H' → Q d ρ H' := by
  cases o with
  | none => exact h.elim
  | some d => exact ⟨d, rfl, fun H' e => h H' (Sq.ex r e)⟩
end
/-- the value v that stands for d, in the frame -/
abbrev YV (X : Cx) (U : AP) (σ : St) (Q : VK) : D → Rho → Hp → Prop := fun d ρ' H' => ∀ v, Rp X.K (Wd U σ ρ') H' v d → Q v H'
def EOk (C : Cxt) (X : Cx) (W : XW) (e : Expr) (m : Rho → Res D) : Prop := ∀ pa U σ H ρ (Q : VK), RX X C pa U σ H ρ → Post X C W pa U σ H ρ (YV X U σ Q) (m ρ) → tSem X e σ H Q
def TOk (C : Cxt) (X : Cx) (W : XW) (e : Expr) (m : Rho → Res D) : Prop := ∀ pa U σ H ρ (Q : Bool → Hp → Prop), RX X C pa U σ H ρ → Post X C W pa U σ H ρ (fun d _ H' => ∃ b, d = .bool b ∧ Q b H') (m ρ) → ttSem X e σ H Q
/-- the result of a test -/
abbrev YT (Q : Bool → Hp → Prop) : D → Rho → Hp → Prop := fun d _ H' => ∃ b, d = .bool b ∧ Q b H'
/-- several values -/
def AOk (C : Cxt) (X : Cx) (W : XW) (es : List Expr) (m : Rho → Res (List D)) : Prop := ∃ t, PA X es t ∧ ∀ pa U σ H ρ (Q : List V → Hp → Prop), RX X C pa U σ H ρ → Post X C W pa U σ H ρ (fun ds ρ' H' => ∀ vs, Rps X.K (Wd U σ ρ') H' vs ds → Q vs H') (m ρ) → t σ H Q
structure XOk (C : Cxt) (k : Nat) (X : Cx) (W : XW) : Prop where
  calm : X.calm = true
  nd : X.N.Nodup
  room : Room k X.A
  bt : ∀ b : Bt, X.mg b.name = none
  ty : ∀ t : Ty, X.mg t.name = none
  isi : X.mg "isinstance" = none
  rng : X.mg "range" = none
  enm : X.mg "enumerate" = none
  rev : X.mg "reversed" = none
  st : X.mg "set" = none
  tk : L2N.Takes X (fun cls d σ H => d = none ∧ ∃ c, cls = .ref (C.exa c) ∧ W c σ H)
section
variable {X : Cx} {C : Cxt} {W : XW} {k : Nat}
/-- no star -/
def plainE : Expr → Bool
  | .Starred .. => false
  | _ => true
theorem star_of {e : Expr} (h : plainE e = true) (es : List Expr) (env : Env) : starEach (e :: es) env = (false, eval e env) :: starEach es env := by
  cases e <;> first | rfl | cases h
theorem dataStart {pa U} {σ : St} {H : Hp} {ρ : Rho} (r : RX X C pa U σ H ρ) {i : Nat} {d : D} (h : ρ[i]? = some (.val d)) : ∃ v, σ[i]? = some (some v) ∧ Rp X.K (Wd U σ ρ) H v d := r.slot i _ h
/-! ### a name -/
def rdv (i : Nat) (ρ : Rho) : Res D := match ρ[i]? with
  | some (.val d) => .ok d ρ
  | some (.own false xs) => .ok (.list xs) (ρ.set i (.val (.list xs)))
  | _ => .bad
theorem ownAt_set {σ : St} {ρ : Rho} {i j : Nat} {s : Sl} {a : Addr} (hs : s.isO = false) (h : OwnAt σ (ρ.set i s) j a) : OwnAt σ ρ j a ∧ j ≠ i := by
  obtain ⟨t, h1, h2, h3⟩ := h
  by_cases e : i = j
  · subst e
    rw [List.getElem?_set] at h1
    split at h1
    · split at h1
      · cases h1; rw [hs] at h2; cases h2
      · cases h1
    · rename_i z; exact absurd rfl z
  · rw [List.getElem?_set_ne e] at h1
    exact ⟨⟨t, h1, h2, h3⟩, Ne.symm e⟩
theorem own_set {σ : St} {ρ : Rho} {i : Nat} {s : Sl} {a : Addr} (hs : s.isO = false) (h : Own σ (ρ.set i s) a) : Own σ ρ a := let ⟨j, z⟩ := h; ⟨j, (ownAt_set hs z).1⟩
theorem wd_set {U : AP} {σ : St} {ρ : Rho} {i : Nat} {s : Sl} (hs : s.isO = false) : ∀ a, Wd U σ (ρ.set i s) a → Wd U σ ρ a := fun a h => h.elim .inl fun z => .inr (own_set hs z)
/-- a list of its own is frozen -/
theorem freeze {pa U} {σ : St} {H : Hp} {ρ : Rho} (r : RX X C pa U σ H ρ) {i : Nat} {fx : Bool} {xs : List D} (h : ρ[i]? = some (.own fx xs)) : SqX X C pa U σ H ρ σ H (ρ.set i (.val (.list xs))) ∧ ∃ v, σ[i]? = some (some v) ∧ Rp X.K (Wd U σ (ρ.set i (.val (.list xs)))) H v (.list xs) := by
  obtain ⟨p, vs, e, f, q, rs⟩ := r.slot i _ h
  have hw := wd_set (U := U) (σ := σ) (ρ := ρ) (i := i) (s := .val (.list xs)) rfl
  have np : ¬ Wd U σ (ρ.set i (.val (.list xs))) p := fun z => by
    rcases z with z | ⟨j, z⟩
    · exact r.out p ⟨i, _, h, rfl, e⟩ z
    · obtain ⟨z1, z2⟩ := ownAt_set rfl z
      exact z2 (r.apart j i p z1 ⟨_, h, rfl, e⟩)
  have rp : Rp X.K (Wd U σ (ρ.set i (.val (.list xs)))) H (.ref p) (.list xs) := .lst np q (rs.kp (Kp.less hw))
  refine ⟨⟨⟨by rw [List.length_set]; exact r.len, r.dom, r.tabs, fun a z => r.out a (own_set rfl z), fun j k a z1 z2 => r.apart j k a (ownAt_set rfl z1).1 (ownAt_set rfl z2).1, fun j s hj => ?_⟩, Gr.refl H, fun a z => .inl (own_set rfl z)⟩, .ref p, e, rp⟩
  by_cases ej : i = j
  · subst ej
    rw [List.getElem?_set] at hj
    split at hj
    · split at hj
      · cases hj; exact ⟨_, e, rp⟩
      · cases hj
    · rename_i z; exact absurd rfl z
  · rw [List.getElem?_set_ne ej] at hj
    exact (r.slot j s hj).kp (Kp.less hw) fun p o _ _ q => q
theorem eok_var {i : Nat} {x : Str} {pos : Pos} (hN : X.N[i]? = some x) (hv : Vis X.env.scope x) (hd : (x == ("__debug__" : Str)) = false) (hcd : (x == ("__classdict__" : Str)) = false) : EOk C X W (.Name x pos) (rdv i) := by
  intro pa U σ H ρ Q r h
  refine sem_of (pe_var hN hv hd hcd) ?_
  unfold rdv at h
  split at h
  · rename_i d e
    obtain ⟨v, e1, rv⟩ := dataStart r e
    exact ⟨v, e1, h H (Sq.refl r) v rv⟩
  · rename_i xs e
    obtain ⟨sq, v, e1, rv⟩ := freeze r e
    exact ⟨v, e1, h H sq v rv⟩
  · exact h.elim
theorem eok_non {j pos} : EOk C X W (.Constant .none j pos) (fun ρ => .ok .none ρ) := fun pa U σ H ρ Q r h => sem_of pe_non (h H (Sq.refl r) _ .non)
theorem eok_bl {b j pos} : EOk C X W (.Constant (.bool b) j pos) (fun ρ => .ok (.bool b) ρ) := fun pa U σ H ρ Q r h => sem_of pe_bl (h H (Sq.refl r) _ (.bl b))
theorem eok_int {i j pos} : EOk C X W (.Constant (.int i) j pos) (fun ρ => .ok (.int i) ρ) := fun pa U σ H ρ Q r h => sem_of pe_int (h H (Sq.refl r) _ (.int i))
theorem eok_str {x : Str} {j pos} (hx : StrOk x) : EOk C X W (.Constant (.str x) j pos) (fun ρ => .ok (.str x) ρ) := fun pa U σ H ρ Q r h => sem_of pe_str (h H (Sq.refl r) _ (.str x hx))
/-! ### two places -/
def bin2 (p : D → D → Option D) (m n : Rho → Res D) : Rho → Res D := fun ρ => (m ρ).bind fun x ρ1 => (n ρ1).bind fun y ρ2 => lift (p x y) ρ2
/-- two expressions, then a reading of their values -/
theorem two_vals {α : Type} {a b : Expr} {m n : Rho → Res D} {f : D → D → Rho → Res α} (ha : EOk C X W a m) (hb : EOk C X W b n) {pa U} {σ : St} {H : Hp} {ρ : Rho} {Y : α → Rho → Hp → Prop} {Z : V → V → Hp → Prop} (r : RX X C pa U σ H ρ)
    (h : Post X C W pa U σ H ρ Y ((m ρ).bind fun x ρ1 => (n ρ1).bind fun y ρ2 => f x y ρ2))
    (k : ∀ x y ρ2 H2 vx vy, SqX X C pa U σ H ρ σ H2 ρ2 → Rp X.K (Wd U σ ρ2) H2 vx x → Rp X.K (Wd U σ ρ2) H2 vy y → Post X C W pa U σ H2 ρ2 Y (f x y ρ2) → Z vx vy H2) :
    tSem X a σ H fun x H1 => tSem X b σ H1 fun y H2 => Z x y H2 := by
  refine ha pa U σ H ρ _ r (h.bind fun x ρ1 H1 q1 h1 vx rx => ?_)
  refine hb pa U σ H1 ρ1 _ q1.r (h1.bind fun y ρ2 H2 q2 h2 vy ry => ?_)
  exact k x y ρ2 H2 vx vy (q1.trans q2) (rx.kp q2.kp) ry h2
theorem eok_bin {a b : Expr} {m n : Rho → Res D} {pos : Pos} (o : B2) (ha : EOk C X W a m) (hb : EOk C X W b n) : EOk C X W (.BinOp a o.op b pos) (bin2 o.den m n) := by
  intro pa U σ H ρ Q r h
  refine sem_of (pe_op o.ok pe_sem pe_sem) ?_
  refine two_vals ha hb r h fun x y ρ2 H2 vx vy q2 rx ry h2 => ?_
  obtain ⟨d, e, hd⟩ := Post.lift q2.r h2
  exact ⟨Wd U σ ρ2, x, y, d, rx, ry, fun a z => q2.r.wdom z, e, fun v H' ex rv => hd H' ex v rv⟩
theorem eok_cmp {a b : Expr} {m n : Rho → Res D} {pos : Pos} (x : XOk C k X W) (o : C2) (ha : EOk C X W a m) (hb : EOk C X W b n) (hm : behindInMarks o.op b = false) : EOk C X W (.Compare a [o.op] [b] pos) (bin2 o.den m n) := by
  intro pa U σ H ρ Q r h
  refine sem_of (pe_cmpR (o.ok (by have := x.room.un; omega)) pe_sem pe_sem hm) ?_
  refine two_vals ha hb r h fun x y ρ2 H2 vx vy q2 rx ry h2 => ?_
  obtain ⟨d, e, hd⟩ := Post.lift q2.r h2
  exact ⟨Wd U σ ρ2, x, y, d, rx, ry, fun a z => q2.r.wdom z, e, fun v H' ex rv => hd H' ex v rv⟩
theorem tok_cmp {a b : Expr} {m n : Rho → Res D} {pos : Pos} (x : XOk C k X W) (o : C2) (ha : EOk C X W a m) (hb : EOk C X W b n) (hm : behindInMarks o.op b = false) : TOk C X W (.Compare a [o.op] [b] pos) (bin2 o.den m n) := by
  intro pa U σ H ρ Q r h
  refine semT_of (pt_cmpR (o.ok (by have := x.room.un; omega)) pe_sem pe_sem hm) ?_
  refine two_vals ha hb r h fun x y ρ2 H2 vx vy q2 rx ry h2 => ?_
  obtain ⟨d, e, hd⟩ := Post.lift q2.r h2
  refine ⟨Wd U σ ρ2, x, y, d, rx, ry, fun a z => q2.r.wdom z, e, fun v H' ex rv => ?_⟩
  obtain ⟨b, eb, hq⟩ := hd H' ex
  subst eb
  exact ⟨b, rv.inv_bl, hq⟩
/-- a chain of two comparisons -/
def chain2 (p q : D → D → Option D) (m n l : Rho → Res D) : Rho → Res D := fun ρ => (m ρ).bind fun x ρ1 => (n ρ1).bind fun y ρ2 => match p x y with
  | some (.bool true) => (l ρ2).bind fun z ρ3 => lift (q y z) ρ3
  | some (.bool false) => .ok (.bool false) ρ2
  | _ => .bad
theorem eok_cmp2 {a b c : Expr} {m n l : Rho → Res D} {pos : Pos} (x : XOk C k X W) (o o' : C2) (ha : EOk C X W a m) (hb : EOk C X W b n) (hc : EOk C X W c l) (h1 : o.op ≠ .In ∧ o.op ≠ .NotIn) (h2 : o'.op ≠ .In ∧ o'.op ≠ .NotIn) :
    EOk C X W (.Compare a [o.op, o'.op] [b, c] pos) (chain2 o.den o'.den m n l) := by
  intro pa U σ H ρ Q r h
  have hu : X.A.units + 64 < cLine := by have := x.room.un; omega
  refine sem_of (pe_chain (o.ok hu) (o'.ok hu) pe_sem pe_sem pe_sem (show behindInMarks o'.op c = false from nomark _ h2.1 h2.2)) ?_
  refine two_vals ha hb r h fun x y ρ2 H2 vx vy q2 rx ry h2 => ?_
  split at h2
  · rename_i e
    refine ⟨Wd U σ ρ2, x, y, _, rx, ry, fun a z => q2.r.wdom z, e, fun v H' ex rv => ⟨true, rv.inv_bl, ?_⟩⟩
    rw [if_pos rfl]
    refine hc pa U σ H' ρ2 _ (q2.r.ex ex) ((h2.shift (Sq.ex q2.r ex)).bind fun z ρ3 H3 q3 h3 vz rz => ?_)
    obtain ⟨d, e', hd⟩ := Post.lift q3.r h3
    exact ⟨Wd U σ ρ3, y, z, d, (ry.kp (Kp.ex ex)).kp q3.kp, rz, fun a z => q3.r.wdom z, e', fun v H' ex rv => hd H' ex v rv⟩
  · rename_i e
    refine ⟨Wd U σ ρ2, x, y, _, rx, ry, fun a z => q2.r.wdom z, e, fun v H' ex rv => ⟨false, rv.inv_bl, ?_⟩⟩
    rw [if_neg Bool.false_ne_true]
    exact h2 H' (Sq.ex q2.r ex) _ (.bl false)
  · exact h2.elim
theorem tok_cmp2 {a b c : Expr} {m n l : Rho → Res D} {pos : Pos} (x : XOk C k X W) (o o' : C2) (ha : EOk C X W a m) (hb : EOk C X W b n) (hc : EOk C X W c l) (h1 : o.op ≠ .In ∧ o.op ≠ .NotIn) (h2 : o'.op ≠ .In ∧ o'.op ≠ .NotIn) :
    TOk C X W (.Compare a [o.op, o'.op] [b, c] pos) (chain2 o.den o'.den m n l) := by
  intro pa U σ H ρ Q r h
  have hu : X.A.units + 64 < cLine := by have := x.room.un; omega
  refine semT_of (pt_chain (o.ok hu) (o'.ok hu) pe_sem pe_sem pe_sem (show behindInMarks o'.op c = false from nomark _ h2.1 h2.2)) ?_
  show tSem X a σ H _
  refine two_vals ha hb r h fun x y ρ2 H2 vx vy q2 rx ry h2 => ?_
  split at h2
  · rename_i e
    refine ⟨Wd U σ ρ2, x, y, _, rx, ry, fun a z => q2.r.wdom z, e, fun v H' ex rv => ⟨true, rv.inv_bl, ?_⟩⟩
    rw [if_pos rfl]
    refine hc pa U σ H' ρ2 _ (q2.r.ex ex) ((h2.shift (Sq.ex q2.r ex)).bind fun z ρ3 H3 q3 h3 vz rz => ?_)
    obtain ⟨d, e', hd⟩ := Post.lift q3.r h3
    refine ⟨Wd U σ ρ3, y, z, d, (ry.kp (Kp.ex ex)).kp q3.kp, rz, fun a z => q3.r.wdom z, e', fun v H' ex rv => ?_⟩
    obtain ⟨b, eb, hq⟩ := hd H' ex
    subst eb
    exact ⟨b, rv.inv_bl, hq⟩
  · rename_i e
    refine ⟨Wd U σ ρ2, x, y, _, rx, ry, fun a z => q2.r.wdom z, e, fun v H' ex rv => ⟨false, rv.inv_bl, ?_⟩⟩
    rw [if_neg Bool.false_ne_true]
    obtain ⟨b, eb, hq⟩ := h2 H' (Sq.ex q2.r ex)
    cases eb
    exact ⟨false, rfl, hq⟩
  · exact h2.elim
end
end Dm
namespace Dm
open PySem PySem.Spec PyProof.Rows L2 LamX
section
variable {X : Cx} {C : Cxt} {W : XW} {k : Nat}
/-! ### one place -/
theorem one_val {α : Type} {a : Expr} {m : Rho → Res D} {f : D → Rho → Res α} (ha : EOk C X W a m) {pa U} {σ : St} {H : Hp} {ρ : Rho} {Y : α → Rho → Hp → Prop} {Z : V → Hp → Prop} (r : RX X C pa U σ H ρ)
    (h : Post X C W pa U σ H ρ Y ((m ρ).bind f)) (k : ∀ x ρ1 H1 vx, SqX X C pa U σ H ρ σ H1 ρ1 → Rp X.K (Wd U σ ρ1) H1 vx x → Post X C W pa U σ H1 ρ1 Y (f x ρ1) → Z vx H1) : tSem X a σ H Z :=
  ha pa U σ H ρ _ r (h.bind fun x ρ1 H1 q1 h1 vx rx => k x ρ1 H1 vx q1 rx h1)
def un1 (p : D → Option D) (m : Rho → Res D) : Rho → Res D := fun ρ => (m ρ).bind fun x ρ1 => lift (p x) ρ1
theorem eok_neg {a : Expr} {m : Rho → Res D} {pos : Pos} (ha : EOk C X W a m) : EOk C X W (.UnaryOp .USub a pos) (un1 negD m) := by
  intro pa U σ H ρ Q r h
  refine sem_of (pe_un dun_neg pe_sem) ?_
  refine one_val ha r h fun x ρ1 H1 vx q1 rx h1 => ?_
  obtain ⟨d, e, hd⟩ := Post.lift q1.r h1
  exact ⟨Wd U σ ρ1, x, d, rx, fun a z => q1.r.wdom z, e, fun v H' ex rv => hd H' ex v rv⟩
def notD : D → Option D
  | .bool b => some (.bool (!b))
  | _ => none
theorem eok_not {a : Expr} {m : Rho → Res D} {pos : Pos} (ha : EOk C X W a m) : EOk C X W (.UnaryOp .Not a pos) (un1 notD m) := by
  intro pa U σ H ρ Q r h
  refine sem_of (pe_not pe_sem) ?_
  refine one_val ha r h fun x ρ1 H1 vx q1 rx h1 => ?_
  obtain ⟨d, e, hd⟩ := Post.lift q1.r h1
  cases x <;> simp only [notD, reduceCtorEq] at e
  cases e
  exact ⟨_, rx.inv_bl, hd H1 (Ex.rfl' _) _ (.bl _)⟩
theorem tok_not {a : Expr} {m : Rho → Res D} {pos : Pos} (ha : TOk C X W a m) : TOk C X W (.UnaryOp .Not a pos) (un1 notD m) := by
  intro pa U σ H ρ Q r h
  refine semT_of (pt_not pt_sem) ?_
  refine ha pa U σ H ρ _ r (h.bind fun x ρ1 H1 q1 h1 => ?_)
  obtain ⟨d, e, hd⟩ := Post.lift q1.r h1
  cases x <;> simp only [notD, reduceCtorEq] at e
  cases e
  obtain ⟨b, eb, hq⟩ := hd H1 (Ex.rfl' _)
  cases eb
  exact ⟨_, rfl, hq⟩
/-- an expression whose test is its value's -/
def plainT : Expr → Bool
  | .UnaryOp .Not _ _ => false
  | .BoolOp .. => false
  | .IfExp .. => false
  | .Compare .. => false
  | _ => true
theorem isTrue_of {e : Expr} (h : plainT e = true) (env : Env) : ∀ whole, isTrue e env whole = (do let v ← whole; standAt e.pos; holding [v] (truthy v)) := by
  intro whole
  cases e with
  | UnaryOp op a p => cases op <;> first | rfl | cases h
  | _ => first | rfl | cases h
theorem tok_plain {e : Expr} {m : Rho → Res D} (he : EOk C X W e m) (h : plainT e = true) : TOk C X W e m := by
  intro pa U σ H ρ Q r hp
  refine semT_of (pt_val pe_sem (isTrue_of h X.env)) ?_
  refine he pa U σ H ρ _ r (hp.mono fun d ρ1 H1 q1 h1 v rv => ?_)
  obtain ⟨b, eb, hq⟩ := h1
  subst eb
  exact ⟨b, rv.inv_bl, hq⟩
/-! ### and, or -/
def twSem (X : Cx) (e : Expr) : TT := fun σ H Q => ∀ whole pins s, Inv X pins σ H s → wpAny (model X.prog X.w) X.A (isTrue e X.env whole) (TP X pins σ Q) X.xe s
theorem pw_sem {X : Cx} {e : Expr} : PW X e (twSem X e) := ⟨fun wh pins s σ H Q I h => h wh pins s I⟩
theorem semW_of {X : Cx} {e : Expr} {t : TT} (h : PW X e t) {σ : St} {H : Hp} {Q : Bool → Hp → Prop} (q : t σ H Q) : twSem X e σ H Q := fun wh pins s I => h.run wh pins s σ H Q I q
def WOk (C : Cxt) (X : Cx) (W : XW) (e : Expr) (m : Rho → Res D) : Prop := ∀ pa U σ H ρ (Q : Bool → Hp → Prop), RX X C pa U σ H ρ → Post X C W pa U σ H ρ (YT Q) (m ρ) → twSem X e σ H Q
theorem WOk.tok {e : Expr} {m : Rho → Res D} (h : WOk C X W e m) : TOk C X W e m := fun pa U σ H ρ Q r hp => fun pins s I => h pa U σ H ρ Q r hp _ pins s I
def andB (m n : Rho → Res D) : Rho → Res D := fun ρ => (m ρ).bind fun x ρ1 => match x with
  | .bool true => n ρ1
  | .bool false => .ok (.bool false) ρ1
  | _ => .bad
def orB (m n : Rho → Res D) : Rho → Res D := fun ρ => (m ρ).bind fun x ρ1 => match x with
  | .bool true => .ok (.bool true) ρ1
  | .bool false => n ρ1
  | _ => .bad
theorem eok_one {op : BoolOp} {a : Expr} {m : Rho → Res D} {pos : Pos} (ha : EOk C X W a m) : EOk C X W (.BoolOp op [a] pos) m := fun pa U σ H ρ Q r h => sem_of (pe_one pe_sem) (ha pa U σ H ρ Q r h)
theorem eok_and {a b : Expr} {rest : List Expr} {m n : Rho → Res D} {pos : Pos} (ha : EOk C X W a m) (hb : EOk C X W (.BoolOp .And (b :: rest) pos) n) : EOk C X W (.BoolOp .And (a :: b :: rest) pos) (andB m n) := by
  intro pa U σ H ρ Q r h
  refine sem_of (pe_and pe_sem pe_sem) ?_
  refine one_val ha r h fun x ρ1 H1 vx q1 rx h1 => ?_
  split at h1
  · refine ⟨true, rx.inv_bl, ?_⟩
    rw [if_pos rfl]
    exact hb pa U σ H1 ρ1 Q q1.r h1
  · refine ⟨false, rx.inv_bl, ?_⟩
    rw [if_neg Bool.false_ne_true]
    exact h1 H1 (Sq.refl q1.r) _ (.bl false)
  · exact h1.elim
theorem eok_or {a b : Expr} {rest : List Expr} {m n : Rho → Res D} {pos : Pos} (ha : EOk C X W a m) (hb : EOk C X W (.BoolOp .Or (b :: rest) pos) n) : EOk C X W (.BoolOp .Or (a :: b :: rest) pos) (orB m n) := by
  intro pa U σ H ρ Q r h
  refine sem_of (pe_or pe_sem pe_sem) ?_
  refine one_val ha r h fun x ρ1 H1 vx q1 rx h1 => ?_
  split at h1
  · refine ⟨true, rx.inv_bl, ?_⟩
    rw [if_pos rfl]
    exact h1 H1 (Sq.refl q1.r) _ (.bl true)
  · refine ⟨false, rx.inv_bl, ?_⟩
    rw [if_neg Bool.false_ne_true]
    exact hb pa U σ H1 ρ1 Q q1.r h1
  · exact h1.elim
theorem wok_and1 {a : Expr} {m : Rho → Res D} {pos : Pos} (ha : TOk C X W a m) : WOk C X W (.BoolOp .And [a] pos) m := fun pa U σ H ρ Q r h => semW_of (pw_and1 pt_sem) (ha pa U σ H ρ Q r h)
theorem wok_or1 {a : Expr} {m : Rho → Res D} {pos : Pos} (ha : TOk C X W a m) : WOk C X W (.BoolOp .Or [a] pos) m := fun pa U σ H ρ Q r h => semW_of (pw_or1 pt_sem) (ha pa U σ H ρ Q r h)
theorem wok_and {a b : Expr} {rest : List Expr} {m n : Rho → Res D} {pos : Pos} (ha : TOk C X W a m) (hb : WOk C X W (.BoolOp .And (b :: rest) pos) n) : WOk C X W (.BoolOp .And (a :: b :: rest) pos) (andB m n) := by
  intro pa U σ H ρ Q r h
  refine semW_of (pw_and pt_sem pw_sem) ?_
  refine ha pa U σ H ρ _ r (h.bind fun x ρ1 H1 q1 h1 => ?_)
  split at h1
  · refine ⟨true, rfl, ?_⟩
    rw [if_pos rfl]
    exact hb pa U σ H1 ρ1 Q q1.r h1
  · refine ⟨false, rfl, ?_⟩
    rw [if_neg Bool.false_ne_true]
    obtain ⟨b, eb, hq⟩ := h1 H1 (Sq.refl q1.r)
    cases eb
    exact hq
  · exact h1.elim
theorem wok_or {a b : Expr} {rest : List Expr} {m n : Rho → Res D} {pos : Pos} (ha : TOk C X W a m) (hb : WOk C X W (.BoolOp .Or (b :: rest) pos) n) : WOk C X W (.BoolOp .Or (a :: b :: rest) pos) (orB m n) := by
  intro pa U σ H ρ Q r h
  refine semW_of (pw_or pt_sem pw_sem) ?_
  refine ha pa U σ H ρ _ r (h.bind fun x ρ1 H1 q1 h1 => ?_)
  split at h1
  · refine ⟨true, rfl, ?_⟩
    rw [if_pos rfl]
    obtain ⟨b, eb, hq⟩ := h1 H1 (Sq.refl q1.r)
    cases eb
    exact hq
  · refine ⟨false, rfl, ?_⟩
    rw [if_neg Bool.false_ne_true]
    exact hb pa U σ H1 ρ1 Q q1.r h1
  · exact h1.elim
/-! ### a if c else b -/
def iteB (c m n : Rho → Res D) : Rho → Res D := fun ρ => (c ρ).bind fun x ρ1 => match x with
  | .bool true => m ρ1
  | .bool false => n ρ1
  | _ => .bad
theorem eok_ite {c a b : Expr} {l m n : Rho → Res D} {pos : Pos} (hc : TOk C X W c l) (ha : EOk C X W a m) (hb : EOk C X W b n) : EOk C X W (.IfExp c a b pos) (iteB l m n) := by
  intro pa U σ H ρ Q r h
  refine sem_of (pe_ifExp pt_sem pe_sem pe_sem) ?_
  refine hc pa U σ H ρ _ r (h.bind fun x ρ1 H1 q1 h1 => ?_)
  split at h1
  · refine ⟨true, rfl, ?_⟩
    rw [if_pos rfl]
    exact ha pa U σ H1 ρ1 Q q1.r h1
  · refine ⟨false, rfl, ?_⟩
    rw [if_neg Bool.false_ne_true]
    exact hb pa U σ H1 ρ1 Q q1.r h1
  · exact h1.elim
/-! ### lists of values -/
theorem aok_nil : AOk C X W [] (fun ρ => .ok [] ρ) := ⟨tNil, pa_nil, fun pa U σ H ρ Q r h => h H (Sq.refl r) _ .nil⟩
def consR (m : Rho → Res D) (n : Rho → Res (List D)) : Rho → Res (List D) := fun ρ => (m ρ).bind fun x ρ1 => (n ρ1).bind fun xs ρ2 => .ok (x :: xs) ρ2
theorem aok_cons {e : Expr} {es : List Expr} {m : Rho → Res D} {n : Rho → Res (List D)} (he : EOk C X W e m) (hs : AOk C X W es n) (hp : plainE e = true) : AOk C X W (e :: es) (consR m n) := by
  obtain ⟨t, pt, ht⟩ := hs
  refine ⟨tCons (tSem X e) t, pa_cons pe_sem pt (star_of hp es X.env), fun pa U σ H ρ Q r h => ?_⟩
  refine he pa U σ H ρ _ r (h.bind fun x ρ1 H1 q1 h1 vx rx => ?_)
  refine ht pa U σ H1 ρ1 _ q1.r (h1.bind fun xs ρ2 H2 q2 h2 vs rs => ?_)
  exact h2 H2 (Sq.refl q2.r) _ (.cons (rx.kp q2.kp) rs)
def tupR (m : Rho → Res (List D)) : Rho → Res D := fun ρ => (m ρ).bind fun xs ρ1 => .ok (.tuple xs) ρ1
def lstR (m : Rho → Res (List D)) : Rho → Res D := fun ρ => (m ρ).bind fun xs ρ1 => .ok (.list xs) ρ1
/-- how many values come -/
def LenIs (m : Rho → Res (List D)) (n : Nat) : Prop := ∀ ρ xs ρ', m ρ = .ok xs ρ' → xs.length = n
theorem Post.len {m : Rho → Res (List D)} {n : Nat} (hn : LenIs m n) {pa U} {σ : St} {H : Hp} {ρ : Rho} {Y : List D → Rho → Hp → Prop} (h : Post X C W pa U σ H ρ Y (m ρ)) : Post X C W pa U σ H ρ (fun xs ρ' H' => xs.length = n ∧ Y xs ρ' H') (m ρ) := by
  cases e : m ρ with
  | ok xs ρ' => rw [e] at h; exact fun H' q => ⟨hn ρ xs ρ' e, h H' q⟩
  | exc c ρ' => rw [e] at h; exact h
  | bad => rw [e] at h; exact h
theorem eok_tup {es : List Expr} {m : Rho → Res (List D)} {n : Nat} {j : Nat} {pos : Pos} (hs : AOk C X W es m) (hn : LenIs m n) (hz : n ≤ 1000) : EOk C X W (.Tuple es j pos) (tupR m) := by
  intro pa U σ H ρ Q r h
  obtain ⟨t, pt, ht⟩ := hs
  refine sem_of (pe_tup pt) ?_
  refine ht pa U σ H ρ _ r (Post.mono (Post.len hn (h.bind (Z := fun xs ρ1 H1 => ∀ vs, Rps X.K (Wd U σ ρ1) H1 vs xs → xs.length = n → vs.length ≤ sizeLine ∧ ∀ p, H1 p = none → Q (.ref p) (upd H1 p (.tup vs))) fun xs ρ1 H1 q1 h1 vs rs hl => ⟨?_, fun p hp => ?_⟩)) fun xs ρ1 H1 q1 ⟨hl, g⟩ vs rs => g vs rs hl)
  · rw [rs.length, hl, sizeLine_eq]; omega
  · exact h1 _ (Sq.ex q1.r (Ex.new hp)) _ (Rp.newT (q1.r.fresh hp) hp rs)
theorem eok_lst {es : List Expr} {m : Rho → Res (List D)} {n : Nat} {pos : Pos} (hs : AOk C X W es m) (hn : LenIs m n) (hz : n ≤ 1000) : EOk C X W (.List es pos) (lstR m) := by
  intro pa U σ H ρ Q r h
  obtain ⟨t, pt, ht⟩ := hs
  refine sem_of (pe_lst pt) ?_
  refine ht pa U σ H ρ _ r (Post.mono (Post.len hn (h.bind (Z := fun xs ρ1 H1 => ∀ vs, Rps X.K (Wd U σ ρ1) H1 vs xs → xs.length = n → vs.length ≤ sizeLine ∧ ∀ p, H1 p = none → Q (.ref p) (upd H1 p (.lst vs))) fun xs ρ1 H1 q1 h1 vs rs hl => ⟨?_, fun p hp => ?_⟩)) fun xs ρ1 H1 q1 ⟨hl, g⟩ vs rs => g vs rs hl)
  · rw [rs.length, hl, sizeLine_eq]; omega
  · exact h1 _ (Sq.ex q1.r (Ex.new hp)) _ (Rp.newL (q1.r.fresh hp) hp rs)
/-! ### subscripts -/
/-- an index that is no slice -/
def plainIx : Expr → Bool
  | .Slice .. => false
  | _ => true
theorem plainIx_of {b : Expr} (h : plainIx b = true) : PlainIx b := by
  intro o i
  cases b <;> first | rfl | cases h
theorem eok_ix {a b : Expr} {m n : Rho → Res D} {pos : Pos} (ha : EOk C X W a m) (hb : EOk C X W b n) (hp : plainIx b = true) : EOk C X W (.Subscript a b pos) (bin2 ixD m n) := by
  intro pa U σ H ρ Q r h
  refine sem_of (pe_ix dix pe_sem pe_sem (plainIx_of hp)) ?_
  refine two_vals ha hb r h fun x y ρ2 H2 vx vy q2 rx ry h2 => ?_
  obtain ⟨d, e, hd⟩ := Post.lift q2.r h2
  exact ⟨Wd U σ ρ2, x, y, d, rx, ry, fun a z => q2.r.wdom z, e, fun v H' ex rv => hd H' ex v rv⟩
/-- a part of a slice -/
def OOk (C : Cxt) (X : Cx) (W : XW) (e : Option Expr) (m : Rho → Res (Option Int)) : Prop := ∃ t, PO X e t ∧ ∀ pa U σ H ρ (Q : Option Int → Hp → Prop), RX X C pa U σ H ρ → Post X C W pa U σ H ρ (fun o _ H' => Q o H') (m ρ) → t σ H Q
theorem ook_non : OOk C X W none (fun ρ => .ok none ρ) := ⟨tNoPart, po_none, fun pa U σ H ρ Q r h => h H (Sq.refl r)⟩
def somR (m : Rho → Res D) : Rho → Res (Option Int) := fun ρ => (m ρ).bind fun x ρ1 => match x with
  | .int i => .ok (some i) ρ1
  | _ => .bad
theorem ook_som {e : Expr} {m : Rho → Res D} (he : EOk C X W e m) : OOk C X W (some e) (somR m) := by
  refine ⟨tPart (tSem X e), po_some pe_sem, fun pa U σ H ρ Q r h => ?_⟩
  refine he pa U σ H ρ _ r (h.bind fun x ρ1 H1 q1 h1 vx rx => ?_)
  cases x <;> try exact h1.elim
  exact ⟨_, rx.inv_int, h1 H1 (Sq.refl q1.r)⟩
def slR (m : Rho → Res D) (lo hi : Rho → Res (Option Int)) : Rho → Res D := fun ρ => (m ρ).bind fun x ρ1 => (lo ρ1).bind fun l ρ2 => (hi ρ2).bind fun u ρ3 => lift (slD l u x) ρ3
theorem eok_sl {a : Expr} {l u : Option Expr} {m : Rho → Res D} {lo hi : Rho → Res (Option Int)} {p2 pos : Pos} (ha : EOk C X W a m) (hl : OOk C X W l lo) (hu : OOk C X W u hi) : EOk C X W (.Subscript a (.Slice l u none p2) pos) (slR m lo hi) := by
  intro pa U σ H ρ Q r h
  obtain ⟨t1, p1, h1⟩ := hl
  obtain ⟨t2, p2, h2⟩ := hu
  refine sem_of (pe_slice dsl pe_sem p1 p2) ?_
  refine ha pa U σ H ρ _ r (h.bind fun x ρ1 H1 q1 g1 vx rx => ?_)
  refine h1 pa U σ H1 ρ1 _ q1.r (g1.bind fun o1 ρ2 H2 q2 g2 => ?_)
  refine h2 pa U σ H2 ρ2 _ q2.r (g2.bind fun o2 ρ3 H3 q3 g3 => ?_)
  obtain ⟨d, e, hd⟩ := Post.lift q3.r g3
  exact ⟨Wd U σ ρ3, x, d, (rx.kp q2.kp).kp q3.kp, fun a z => q3.r.wdom z, e, fun v H' ex rv => hd H' ex v rv⟩
/-! ### calls of built-ins -/
def bltR (p : List D → Option D) (m : Rho → Res (List D)) : Rho → Res D := fun ρ => (m ρ).bind fun xs ρ1 => lift (p xs) ρ1
theorem backTo_nostar {es : List Expr} (h : es.all plainE = true) (pos : Pos) (env : Env) : (backTo pos (starEach es env)).any (·.1) = false := by
  induction es with
  | nil => rfl
  | cons e es ih =>
    simp only [List.all_cons, Bool.and_eq_true] at h
    rw [star_of h.1]
    exact ih h.2
theorem eok_blt {e : Expr} {es : List Expr} {m : Rho → Res (List D)} {p pos : Pos} (x : XOk C k X W) (b : Bt) (hs : AOk C X W (e :: es) m) (hg : Gl X b.name) (hp : plainE e = true) (hps : es.all plainE = true) : EOk C X W (.Call (.Name b.name p) (e :: es) [] pos) (bltR b.den m) := by
  intro pa U σ H ρ Q r h
  obtain ⟨t, pt, ht⟩ := hs
  have hu : X.A.units + 64 < cLine := by have := x.room.un; omega
  have key : PE X (.Call (.Name b.name p) (e :: es) [] pos) (tCB (rDn X.K b.den) t) := by
    have hc := b.ok (X := X) x.calm hu
    have hb := b.boot
    cases hv : b.val with
    | builtin id =>
      rw [hv] at hc hb
      exact pe_callB hc hg (x.bt b) hb pt b.nn b.nd (star_of hp es X.env) (backTo_nostar hps pos X.env)
    | type T =>
      rw [hv] at hc hb
      exact pe_callTy hc hg (x.bt b) hb pt b.nn b.nd (star_of hp es X.env) (backTo_nostar hps pos X.env)
    | _ => cases b <;> cases hv
  refine sem_of key ?_
  refine ht pa U σ H ρ _ r (h.bind fun xs ρ1 H1 q1 g1 vs rs => ?_)
  obtain ⟨d, e, hd⟩ := Post.lift q1.r g1
  exact ⟨Wd U σ ρ1, xs, d, rs, fun a z => q1.r.wdom z, e, fun v H' ex rv => hd H' ex v rv⟩
def isiR (t : Ty) (m : Rho → Res D) : Rho → Res D := fun ρ => (m ρ).bind fun x ρ1 => .ok (.bool (isiD t x)) ρ1
theorem boot_isi : bootBuiltins ("isinstance" : Str) = some (.builtin "isinstance") := by decide +kernel
theorem eok_isi {e : Expr} {m : Rho → Res D} {p p2 pos : Pos} (x : XOk C k X W) (t : Ty) (he : EOk C X W e m) (hg : Gl X "isinstance") (hgt : Gl X t.name) (hp : plainE e = true) : EOk C X W (.Call (.Name "isinstance" p) [e, .Name t.name p2] [] pos) (isiR t m) := by
  intro pa U σ H ρ Q r h
  have hc : CallR X (.builtin "isinstance") (fun xs H Q => ∃ (W : AP) (x : V) (d : D), xs = [x, .ty t.nm] ∧ Rp X.K W H x d ∧ Q (.bl (isiD t d)) H) := by
    rintro pins s σ H xs us Q I ru ⟨W, x, d, rfl, rx, q⟩
    obtain ⟨u1, u2, rfl, r1, r2⟩ := vals2 ru
    cases (show u2 = Value.type t.nm from r2)
    exact isi_ok t I r1 rx fun tk => ⟨.bl _, H, I.tok tk, rfl, q⟩
  have pt : PA X [e, .Name t.name p2] (tCons (tSem X e) (tCons (tC (.ty t.nm)) tNil)) := pa_cons pe_sem (pa_cons (pe_bltn hgt (x.ty t) t.boot rfl t.nn t.nd) pa_nil rfl) (star_of hp _ X.env)
  refine sem_of (pe_callB hc hg x.isi boot_isi pt (by decide) (by decide) (star_of hp _ X.env) rfl) ?_
  refine one_val he r h fun x ρ1 H1 vx q1 rx h1 => ?_
  exact ⟨Wd U σ ρ1, vx, x, rfl, rx, h1 H1 (Sq.refl q1.r) _ (.bl _)⟩
/-! ### xs.index(y) -/
def idxD : D → D → Option D
  | .list ds, y => if y.depth ≤ 60 ∧ (PyData.list ds).depth ≤ 60 then (ds.findIdx? fun z => PyData.eqv z y).map fun j => .int (j : Nat) else none
  | _, _ => none
end
end Dm
namespace Dm
open PySem PySem.Spec PyProof.Rows L2 LamX
section
variable {X : Cx} {C : Cxt} {W : XW} {k : Nat}
theorem findIdx_spec {p : D → Bool} : ∀ {ds : List D} {j : Nat}, ds.findIdx? p = some j → ∃ z, ds[j]? = some z ∧ p z = true ∧ ∀ (m : Nat) (z' : D), m < j → ds[m]? = some z' → p z' = false
  | [], j, h => by simp at h
  | d :: ds, j, h => by
    rw [List.findIdx?_cons] at h
    split at h
    · rename_i hp
      cases h
      exact ⟨d, rfl, hp, fun m z' hm => absurd hm (Nat.not_lt_zero m)⟩
    · rename_i hp
      obtain ⟨i, e1, e2⟩ := Option.map_eq_some_iff.mp h
      subst e2
      obtain ⟨z, h1, h2, h3⟩ := findIdx_spec e1
      refine ⟨z, by simpa using h1, h2, fun m z' hm hz => ?_⟩
      cases m with
      | zero => simp at hz; subst hz; simpa using hp
      | succ m => exact h3 m z' (by omega) (by simpa using hz)
def rIdx (K : PySem.W.Frag) : V → List V → Hp → VK → Prop := fun x xs H Q => ∃ (W : AP) (dx dy d : D) (y : V), xs = [y] ∧ Rp K W H x dx ∧ Rp K W H y dy ∧ idxD dx dy = some d ∧ ∀ v H', Ex H H' → Rp K W H' v d → Q v H'
theorem shaped_of {K : PySem.W.Frag} {W : AP} {H : Hp} {v : V} {d : D} (r : Rp K W H v d) (h : d.depth ≤ 60) : SeqAt.shaped d = true := by
  unfold SeqAt.shaped
  rw [r.can, decide_eq_true (by omega)] <;> rfl
theorem mt_idx (hu : X.A.units + 65 < cLine) : MtR X "list.index" (rIdx X.K) := by
  rintro pins s σ H x xs v us Q I ru rv ⟨W, dx, dy, d, y, rfl, rx, ry, e, k⟩
  cases dx <;> simp only [idxD, reduceCtorEq] at e
  rename_i ds
  split at e
  · rename_i hd
    obtain ⟨j, e1, e2⟩ := Option.map_eq_some_iff.mp e
    subst e2
    obtain ⟨z, h1, h2, h3⟩ := findIdx_spec e1
    obtain ⟨a, ys, rfl, na, ha, ra⟩ := id rx.inv_lst
    exact mt_indexD hu pins s σ H _ _ v us Q I ru rv ⟨a, y, dy, ds, j, z, rfl, rfl, rx.dp, ry.dp, shaped_of rx hd.2, shaped_of ry hd.1, h1, h2, h3, k _ _ (Ex.rfl' H) (.int _)⟩
  · cases e
/-- an expression that is no call without arguments -/
def plainB : Expr → Bool
  | .Call (.Name _ _) [] [] _ => false
  | _ => true
theorem plainB_of {o : Expr} (h : plainB o = true) (name : Str) (env : Env) : attributeBase o name env (eval o env) = eval o env := by
  unfold attributeBase
  split
  · rename_i id p pos
    cases h
  · rfl
def idxR (m n : Rho → Res D) : Rho → Res D := fun ρ => (m ρ).bind fun x ρ1 => match x with
  | .list ds => (n ρ1).bind fun y ρ2 => lift (idxD (.list ds) y) ρ2
  | _ => .bad
theorem eok_idx {o e : Expr} {m n : Rho → Res D} {apos cpos : Pos} (x : XOk C k X W) (ho : EOk C X W o m) (he : EOk C X W e n) (hb : plainB o = true) (hp : plainE e = true) (hl : (apos.endLine == cpos.line) = true) : EOk C X W (.Call (.Attribute o "index" apos) [e] [] cpos) (idxR m n) := by
  intro pa U σ H ρ Q r h
  have hu : X.A.units + 65 < cLine := by have := x.room.un; omega
  have pt : PA X [e] (tCons (tSem X e) tNil) := pa_cons pe_sem pa_nil (star_of hp _ X.env)
  refine sem_of (pe_bm PySem.F.plainAttrs_list PySem.F.slot_list_index PySem.F.type_list_index (mt_idx hu) pe_sem pt (plainB_of hb _ _) (by rw [star_of hp] <;> rfl) hl (star_of hp _ X.env) rfl) ?_
  refine ho pa U σ H ρ _ r (h.bind fun dx ρ1 H1 q1 h1 vx rx => ?_)
  split at h1
  · rename_i ds
    obtain ⟨a, ys, rfl, na, ha, ra⟩ := id rx.inv_lst
    refine ⟨Or.inl ⟨rfl, ys, SqL.of ha⟩, ?_⟩
    refine he pa U σ H1 ρ1 _ q1.r (h1.bind fun dy ρ2 H2 q2 h2 vy ry => ?_)
    obtain ⟨d, e, hd⟩ := Post.lift q2.r h2
    exact ⟨Wd U σ ρ2, _, dy, d, vy, rfl, rx.kp q2.kp, ry, e, fun v H' ex rv => hd H' ex v rv⟩
  · exact h1.elim
/-! ### calls of the text's own defs -/
structure Fn where
  name : Str
  ar : Nat
  sem : List Sl → Res D
/-- what a def promises, from what it makes of data -/
def spOf (P : Program) (w : World) (K : PySem.W.Frag) (C : Cxt) (f : Fn) : Sp := fun vs H Q E => vs.length = f.ar ∧ ∃ (pa : Nat → Addr) (U : AP) (ss : List Sl), (∀ s ∈ ss, s.isO = true → s.fx = true) ∧ R P w K C pa U (vs.map some) H ss ∧ match f.sem ss with
  | .ok d ss' => ∀ v H', Sq P w K C pa U (vs.map some) H ss (vs.map some) H' ss' → (∀ (i : Nat) s', ss'[i]? = some s' → s'.isO = true → ∃ s, ss[i]? = some s ∧ s.isO = true) → Rp K (Wd U (vs.map some) ss') H' v d → Q v H'
  | .exc c ss' => ∀ H', Sq P w K C pa U (vs.map some) H ss (vs.map some) H' ss' → (∀ (i : Nat) s', ss'[i]? = some s' → s'.isO = true → ∃ s, ss[i]? = some s ∧ s.isO = true) → E (.ref (C.exa c)) none H'
  | .bad => False
structure AvG (P : Program) (w : World) (K : PySem.W.Frag) (mg : Str → Option Value) (base : Heap) (C : Cxt) (k : Nat) (f : Fn) : Prop where
  ex : ∃ (a : Addr) (fd : FuncData) (ps : List Str), mg f.name = some (.ref a) ∧ PySem.W.keepIn K (.ref a) = true ∧ Binds K fd ps [] ∧ FnOk P w K mg base (L2N.CX P w) k a fd ps (spOf P w K C f)
  nd : (f.name == ("__debug__" : Str)) = false
abbrev Av (X : Cx) (C : Cxt) (k : Nat) (f : Fn) : Prop := AvG X.prog X.w X.K X.mg X.base C k f
theorem AvG.mono {P : Program} {w : World} {K : PySem.W.Frag} {mg : Str → Option Value} {base : Heap} {C : Cxt} {j k : Nat} {f : Fn} (h : AvG P w K mg base C j f) (l : j ≤ k) : AvG P w K mg base C k f :=
  let ⟨⟨a, fd, ps, h1, h2, h3, h4⟩, h5⟩ := h; ⟨⟨a, fd, ps, h1, h2, h3, h4.mono l⟩, h5⟩
/-! arguments: a value, or a slot that the callee may change -/
inductive Ar where
  | dat (d : D)
  | slo (j : Nat)
def argSl (ρ : Rho) : Ar → Option Sl
  | .dat d => some (.val d)
  | .slo j => match ρ[j]? with
    | some (.val d) => some (.val d)
    | some (.own _ xs) => some (.own true xs)
    | some (.dic _ kvs) => some (.dic true kvs)
    | some (.ins _ fs) => some (.ins true fs)
    | some (.scr ns) => some (.scr ns)
    | _ => none
def argSls (ρ : Rho) : List Ar → Option (List Sl)
  | [] => some []
  | a :: r => match argSl ρ a, argSls ρ r with
    | some s, some ss => some (s :: ss)
    | _, _ => none
def reown : Sl → Sl → Option Sl
  | .own fx _, .own _ ys => some (.own fx ys)
  | .dic fx _, .dic _ ys => some (.dic fx ys)
  | .ins fx _, .ins _ ys => some (.ins fx ys)
  | .val d, _ => some (.val d)
  | .scr ns, _ => some (.scr ns)
  | _, _ => none
/-- what the callee left, back in the caller's slots -/
def wback (ρ : Rho) : List Ar → List Sl → Option Rho
  | [], _ => some ρ
  | .dat _ :: r, _ :: ss => wback ρ r ss
  | .slo j :: r, s' :: ss => match ρ[j]? with
    | some s => match reown s s' with
      | some t => wback (ρ.set j t) r ss
      | none => none
    | none => none
  | _ :: _, [] => none
def muts : List Ar → List Nat
  | [] => []
  | .dat _ :: r => muts r
  | .slo j :: r => j :: muts r
def nodupB : List Nat → Bool
  | [] => true
  | a :: r => !(r.contains a) && nodupB r
theorem nodupB_of : ∀ {l : List Nat}, nodupB l = true → l.Nodup
  | [], _ => List.nodup_nil
  | a :: r, h => by
    simp only [nodupB, Bool.and_eq_true, Bool.not_eq_true'] at h
    refine List.nodup_cons.mpr ⟨fun hm => ?_, nodupB_of h.2⟩
    have := h.1
    rw [List.contains_iff_mem.mpr hm] at this
    cases this
def nwS (b : Bool) : List Sl := if b then [.dic true []] else []
def callD (f : Fn) (nw : Bool) (as : List Ar) (ρ : Rho) : Res D := match argSls ρ as with
  | some ss => if nodupB (muts as) && (ss.length + (if nw then 1 else 0) == f.ar) then match f.sem (ss ++ nwS nw) with
    | .ok d ss' => match wback ρ as ss' with
      | some ρ' => .ok d ρ'
      | none => .bad
    | .exc c ss' => match wback ρ as ss' with
      | some ρ' => .exc c ρ'
      | none => .bad
    | .bad => .bad else .bad
  | none => .bad
theorem argSls_get : ∀ {ρ : Rho} {as : List Ar} {ss : List Sl}, argSls ρ as = some ss → as.length = ss.length ∧ ∀ (i : Nat) a, as[i]? = some a → ∃ s, ss[i]? = some s ∧ argSl ρ a = some s
  | ρ, [], ss, h => by
    cases h
    exact ⟨rfl, fun i a e => by simp at e⟩
  | ρ, a :: r, ss, h => by
    unfold argSls at h
    split at h
    · rename_i s ss' e1 e2
      cases h
      obtain ⟨h1, h2⟩ := argSls_get e2
      refine ⟨by simp [h1], fun i b e => ?_⟩
      cases i with
      | zero => simp at e; subst e; exact ⟨s, rfl, e1⟩
      | succ i => simpa using h2 i b (by simpa using e)
    · cases h
theorem mem_muts {as : List Ar} {i j : Nat} (h : as[i]? = some (.slo j)) : j ∈ muts as := by
  induction as generalizing i with
  | nil => simp at h
  | cons a r ih =>
    cases i with
    | zero => simp at h; subst h; exact List.mem_cons_self
    | succ i =>
      have := ih (i := i) (by simpa using h)
      cases a with
      | dat d => exact this
      | slo b => exact List.mem_cons_of_mem _ this
theorem muts_inj : ∀ {as : List Ar} {i i' j : Nat}, (muts as).Nodup → as[i]? = some (.slo j) → as[i']? = some (.slo j) → i = i'
  | [], i, i', j, _, h, _ => by simp at h
  | a :: r, 0, 0, j, _, _, _ => rfl
  | a :: r, 0, i' + 1, j, n, h, g => by
    simp at h
    subst h
    exact absurd (mem_muts (as := r) (i := i') (by simpa using g)) (List.nodup_cons.mp n).1
  | a :: r, i + 1, 0, j, n, h, g => by
    simp at g
    subst g
    exact absurd (mem_muts (as := r) (i := i) (by simpa using h)) (List.nodup_cons.mp n).1
  | a :: r, i + 1, i' + 1, j, n, h, g => by
    have n' : (muts r).Nodup := by
      cases a with
      | dat d => exact n
      | slo b => exact (List.nodup_cons.mp n).2
    rw [muts_inj (as := r) (i := i) (i' := i') n' (by simpa using h) (by simpa using g)]
theorem wback_spec : ∀ {as : List Ar} {ss' : List Sl} {ρ ρ' : Rho}, (muts as).Nodup → wback ρ as ss' = some ρ' → ρ'.length = ρ.length ∧ (∀ j, j ∉ muts as → ρ'[j]? = ρ[j]?) ∧
    ∀ (i j : Nat), as[i]? = some (.slo j) → ∃ s s' t, ρ[j]? = some s ∧ ss'[i]? = some s' ∧ reown s s' = some t ∧ ρ'[j]? = some t
  | [], ss', ρ, ρ', _, h => by
    simp only [wback] at h
    cases h
    exact ⟨rfl, fun _ _ => rfl, fun i j e => by simp at e⟩
  | .dat d :: r, [], ρ, ρ', n, h => by simp [wback] at h
  | .slo j :: r, [], ρ, ρ', n, h => by simp [wback] at h
  | .dat d :: r, s' :: ss, ρ, ρ', n, h => by
    simp only [wback] at h
    obtain ⟨h1, h2, h3⟩ := wback_spec (as := r) n h
    refine ⟨h1, h2, fun i j e => ?_⟩
    cases i with
    | zero => simp at e
    | succ i => simpa using h3 i j (by simpa using e)
  | .slo j :: r, s' :: ss, ρ, ρ', n, h => by
    simp only [wback] at h
    split at h
    · rename_i s es
      split at h
      · rename_i t et
        obtain ⟨n1, n2⟩ := List.nodup_cons.mp n
        obtain ⟨h1, h2, h3⟩ := wback_spec (as := r) n2 h
        have hj : j < ρ.length := (List.getElem?_eq_some_iff.mp es).1
        refine ⟨by rw [h1, List.length_set], fun j' hj' => ?_, fun i j' e => ?_⟩
        · have a1 : j' ≠ j := fun z => hj' (by rw [z]; exact List.mem_cons_self)
          have a2 : j' ∉ muts r := fun z => hj' (List.mem_cons_of_mem _ z)
          rw [h2 j' a2, List.getElem?_set_ne (Ne.symm a1)]
        · cases i with
          | zero =>
            simp at e
            subst e
            refine ⟨s, s', t, es, rfl, et, ?_⟩
            rw [h2 j n1, List.getElem?_set_self hj]
          | succ i =>
            obtain ⟨u, u', t', g1, g2, g3, g4⟩ := h3 i j' (by simpa using e)
            have a1 : j' ≠ j := fun z => n1 (by rw [← z]; exact mem_muts (i := i) (by simpa using e))
            rw [List.getElem?_set_ne (Ne.symm a1)] at g1
            exact ⟨u, u', t', g1, by simpa using g2, g3, g4⟩
      · cases h
    · cases h
/-- the values of arguments stand for them -/
def ArOk (K : PySem.W.Frag) (W : AP) (H : Hp) (σ : St) (v : V) : Ar → Prop
  | .dat d => Rp K W H v d
  | .slo j => σ[j]? = some (some v)
end
end Dm
namespace Dm
open PySem PySem.Spec PyProof.Rows L2 LamX
theorem paired_get {α β : Type} {F : α → β → Prop} : ∀ {l₁ : List α} {l₂ : List β} {i : Nat} {b : β}, Paired F l₁ l₂ → l₂[i]? = some b → ∃ a, l₁[i]? = some a ∧ F a b
  | _, _, _, _, .nil, e => by simp at e
  | _, _, 0, _, .cons r t, e => by simp at e; subst e; exact ⟨_, rfl, r⟩
  | _, _, i + 1, b, .cons r t, e => by
    obtain ⟨a, h1, h2⟩ := paired_get (i := i) t (by simpa using e)
    exact ⟨a, by simpa using h1, h2⟩
abbrev Ars (K : PySem.W.Frag) (W : AP) (H : Hp) (σ : St) (vs : List V) (as : List Ar) : Prop := Paired (ArOk K W H σ) vs as
theorem ArOk.kp {K : PySem.W.Frag} {W W' : AP} {H H' : Hp} {σ : St} {v : V} {a : Ar} (k : Kp W H W' H') (h : ArOk K W H σ v a) : ArOk K W' H' σ v a := by
  cases a with
  | dat d => exact Rp.kp k h
  | slo j => exact h
theorem reown_isO {s s' t : Sl} (h : reown s s' = some t) : t.isO = s.isO ∧ t.fx = s.fx := by
  cases s <;> cases s' <;> simp only [reown, Option.some.injEq, reduceCtorEq] at h <;> subst h <;> exact ⟨rfl, rfl⟩
theorem reown_isO2 {s s' t : Sl} (h : reown s s' = some t) (o : s.isO = true) : s'.isO = true := by
  cases s <;> cases s' <;> simp only [reown, Option.some.injEq, reduceCtorEq] at h <;> first | rfl | cases o
def nwH (P : Program) (w : World) (H : Hp) (N : Option Addr) : Hp := match N with
  | some p => upd H p (dicO P w p [])
  | none => H
def nwV (N : Option Addr) : List V := match N with
  | some p => [.ref p]
  | none => []
section
variable {P : Program} {w : World} {K : PySem.W.Frag} {C : Cxt} {pa : Nat → Addr} {U : AP} {σ : St} {H H1 H2 : Hp} {ρ ρ' : Rho}
/-- the addresses that a call hands over -/
def Passed (σ : St) (ρ : Rho) (as : List Ar) (a : Addr) : Prop := ∃ i j s : Nat, as[i]? = some (.slo j) ∧ OwnAt σ ρ j a
/-- what the callee must leave as it is -/
def U' (U : AP) (σ : St) (ρ : Rho) (as : List Ar) : AP := fun a => Wd U σ ρ a ∧ ¬ Passed σ ρ as a
def pa' (vs : List V) : Nat → Addr := fun i => match vs[i]? with
  | some (.ref a) => a
  | _ => 0
theorem pa'_of {vs : List V} {i : Nat} {a : Addr} (h : vs[i]? = some (.ref a)) : pa' vs i = a := by unfold pa'; rw [h]
theorem sigma_get {vs : List V} {i : Nat} {v : V} : (vs.map some)[i]? = some (some v) ↔ vs[i]? = some v := by
  rw [List.getElem?_map]
  cases vs[i]? <;> simp
/-- a slot handed over is the callee's -/
theorem argSl_isO {a : Ar} {s : Sl} (h : argSl ρ a = some s) (o : s.isO = true) : ∃ j t, a = .slo j ∧ ρ[j]? = some t ∧ t.isO = true ∧ s.fx = true := by
  cases a with
  | dat d => simp only [argSl, Option.some.injEq] at h; subst h; cases o
  | slo j =>
    simp only [argSl] at h
    split at h <;> simp only [Option.some.injEq, reduceCtorEq] at h <;> subst h
    · cases o
    · rename_i e; exact ⟨j, _, rfl, e, rfl, rfl⟩
    · rename_i e; exact ⟨j, _, rfl, e, rfl, rfl⟩
    · rename_i e; exact ⟨j, _, rfl, e, rfl, rfl⟩
    · cases o
theorem argSl_own {j : Nat} {s t : Sl} (h : argSl ρ (.slo j) = some s) (e : ρ[j]? = some t) : s.isO = t.isO := by
  simp only [argSl] at h
  split at h <;> simp only [Option.some.injEq, reduceCtorEq] at h <;> subst h <;> rename_i e' <;> rw [e] at e' <;> cases e' <;> rfl
theorem ownAt_fun {σ : St} {ρ : Rho} {j : Nat} {a b : Addr} (h : OwnAt σ ρ j a) (g : OwnAt σ ρ j b) : a = b := by
  obtain ⟨_, _, _, e⟩ := h
  obtain ⟨_, _, _, e'⟩ := g
  rw [e] at e'
  cases e'; rfl
/-- no datum reaches a thing of another kind -/
theorem Rp.avoid {K : PySem.W.Frag} {W : AP} {H : Hp} {p : Addr} {φ : Heap → Prop} (hp : H p = none ∨ H p = some (.ext φ)) : Kp W H W H := Kp.refl W H

theorem pair_len {vs : List V} {as : List Ar} {ss : List Sl} (ha : Ars K (Wd U σ ρ) H σ vs as) (hs : argSls ρ as = some ss) : vs.length = ss.length := by
  rw [ha.length, (argSls_get hs).1]
/-- the state at the callee's entry; N: a new dict at p, or none -/
theorem call_start {vs : List V} {as : List Ar} {ss : List Sl} {N : Option Addr} (r : R P w K C pa U σ H ρ) (ha : Ars K (Wd U σ ρ) H σ vs as) (hs : argSls ρ as = some ss) (hn : (muts as).Nodup)
    (hN : ∀ p, N = some p → H p = none ∧ (p == sysModules) = false) :
    let H1 := nwH P w H N
    let ss1 := ss ++ (nwS N.isSome)
    let vs1 := vs ++ (nwV N)
    (∀ s ∈ ss1, s.isO = true → s.fx = true) ∧ R P w K C (pa' vs1) (U' U σ ρ as) (vs1.map some) H1 ss1 := by
  intro H1 ss1 vs1
  have hl : vs.length = ss.length := pair_len ha hs
  obtain ⟨g1, g2⟩ := argSls_get hs
  have ex : Ex H H1 := by
    intro a o e
    show (nwH P w H N) a = some o
    cases N with
    | none => exact e
    | some p => exact Ex.new (hN p rfl).1 a o e
  -- a slot of the callee: an argument's, or the new dict
  have cls : ∀ (i : Nat) (s : Sl), ss1[i]? = some s → (∃ a v, as[i]? = some a ∧ argSl ρ a = some s ∧ vs[i]? = some v ∧ vs1[i]? = some v ∧ ArOk K (Wd U σ ρ) H σ v a ∧ i < ss.length) ∨ (∃ p, N = some p ∧ i = ss.length ∧ s = .dic true [] ∧ vs1[i]? = some (.ref p)) := by
    intro i s hi
    by_cases hlt : i < ss.length
    · left
      have e1 : ss[i]? = some s := by rw [← hi]; exact (List.getElem?_append_left hlt).symm
      have hia : i < as.length := by omega
      obtain ⟨s', e2, e3⟩ := g2 i as[i] (List.getElem?_eq_getElem hia)
      rw [e1] at e2; cases e2
      obtain ⟨v, e4, e5⟩ := paired_get ha (List.getElem?_eq_getElem hia)
      exact ⟨_, v, List.getElem?_eq_getElem hia, e3, e4, by show (vs ++ _)[i]? = _; rw [List.getElem?_append_left (by omega)]; exact e4, e5, hlt⟩
    · right
      have e1 : (nwS N.isSome)[i - ss.length]? = some s := by
        rw [← hi]; exact (List.getElem?_append_right (by omega)).symm
      cases N with
      | none => simp [nwS] at e1
      | some p =>
        have hz : i = ss.length := by
          rcases Nat.lt_or_ge (i - ss.length) 1 with q | q
          · omega
          · rw [List.getElem?_eq_none (by simpa [nwS] using q)] at e1; cases e1
        subst hz
        simp [nwS] at e1
        refine ⟨p, rfl, rfl, e1.symm, ?_⟩
        show (vs ++ [V.ref p])[ss.length]? = _
        rw [← hl, List.getElem?_append_right (Nat.le_refl _)]
        simp
  -- who owns what
  have own : ∀ (i : Nat) (a : Addr), OwnAt (vs1.map some) ss1 i a → (∃ j, as[i]? = some (.slo j) ∧ OwnAt σ ρ j a) ∨ (N = some a ∧ i = ss.length) := by
    rintro i a ⟨s, h1, h2, h3⟩
    have h3' := sigma_get.mp h3
    rcases cls i s h1 with ⟨b, v, e1, e2, e3, e4, e5, e6⟩ | ⟨p, e1, e2, e3, e4⟩
    · obtain ⟨j, t, rfl, e7, e8, e9⟩ := argSl_isO e2 h2
      rw [h3'] at e4; cases e4
      exact .inl ⟨j, e1, t, e7, e8, e5⟩
    · rw [h3'] at e4; cases e4
      exact .inr ⟨e1, e2⟩
  have fresh : ∀ p, N = some p → ¬ Wd U σ ρ p := fun p e => r.fresh (hN p e).1
  have wsub : ∀ a, Wd (U' U σ ρ as) (vs1.map some) ss1 a → Wd U σ ρ a ∨ N = some a := by
    rintro a (h | ⟨i, h⟩)
    · exact .inl h.1
    · rcases own i a h with ⟨j, _, e⟩ | ⟨e, _⟩
      · exact .inl (.inr ⟨j, e⟩)
      · exact .inr e
  have kp : Kp (Wd U σ ρ) H (Wd (U' U σ ρ as) (vs1.map some) ss1) H1 := fun a u e n _ => ⟨ex a u e, fun z => (wsub a z).elim n fun z => by rw [(hN a z).1] at e; cases e⟩
  refine ⟨fun s hs' ho => ?_, ⟨?_, fun a h => ex.dom (r.wdom h.1), r.tabs.ext ex, ?_, ?_, ?_⟩⟩
  · obtain ⟨i, hi⟩ := List.mem_iff_getElem?.mp hs'
    rcases cls i s hi with ⟨b, v, e1, e2, e3, e4, e5, e6⟩ | ⟨p, e1, e2, e3, e4⟩
    · obtain ⟨j, t, _, _, _, e9⟩ := argSl_isO e2 ho
      exact e9
    · subst e3; rfl
  · show (List.map some (vs ++ _)).length = (ss ++ _).length
    rw [List.length_map, List.length_append, List.length_append, hl]
    cases N <;> rfl
  · rintro a ⟨i, h⟩ hu
    rcases own i a h with ⟨j, e1, e2⟩ | ⟨e, _⟩
    · exact hu.2 ⟨i, j, 0, e1, e2⟩
    · exact fresh a e hu.1
  · intro i j a h1 h2
    rcases own i a h1 with ⟨k1, e1, e2⟩ | ⟨e, z⟩ <;> rcases own j a h2 with ⟨k2, e3, e4⟩ | ⟨e', z'⟩
    · have := r.apart k1 k2 a e2 e4
      subst this
      exact muts_inj hn e1 e3
    · exact absurd (.inr ⟨k1, e2⟩) (fresh a e')
    · exact absurd (.inr ⟨k2, e4⟩) (fresh a e)
    · omega
  · intro i s hi
    rcases cls i s hi with ⟨b, v, e1, e2, e3, e4, e5, e6⟩ | ⟨p, e1, e2, e3, e4⟩
    · have e4' : (vs1.map some)[i]? = some (some v) := sigma_get.mpr e4
      rw [e4']
      cases b with
      | dat d =>
        simp only [argSl, Option.some.injEq] at e2
        subst e2
        exact ⟨v, rfl, Rp.kp kp e5⟩
      | slo j =>
        have e5' : σ[j]? = some (some v) := e5
        cases ej : ρ[j]? with
        | none => simp only [argSl, ej, reduceCtorEq] at e2
        | some t =>
          have sl := (r.slot j t ej).kp (K := K) kp (W' := Wd (U' U σ ρ as) (vs1.map some) ss1) (H' := H1) fun p o _ _ q => ex p o q
          rw [e5'] at sl
          simp only [argSl, ej] at e2
          have hpa : ∀ q : Addr, v = V.ref q → q = pa' vs1 i := fun q hq => by subst hq; exact (pa'_of e4).symm
          cases t <;> simp only [Option.some.injEq, reduceCtorEq] at e2 <;> subst e2
          · exact sl
          · obtain ⟨p, ws, z1, z2, z3⟩ := sl; exact ⟨p, ws, z1, fun _ => hpa p (by cases z1; rfl), z3⟩
          · obtain ⟨p, z1, z2, z3⟩ := sl; exact ⟨p, z1, fun _ => hpa p (by cases z1; rfl), z3⟩
          · obtain ⟨p, dx, ws, z1, z2, z3⟩ := sl; exact ⟨p, dx, ws, z1, fun _ => hpa p (by cases z1; rfl), z3⟩
          · exact sl
    · subst e3
      rw [sigma_get.mpr e4]
      refine ⟨p, rfl, fun _ => (pa'_of e4).symm, [], ?_, (hN p e1).2, Nat.zero_le _, List.nodup_nil, .nil⟩
      show (nwH P w H N) p = _
      rw [e1]
      exact upd_same
/-- back from the callee -/
theorem call_back {vs : List V} {as : List Ar} {ss ss' : List Sl} {N : Option Addr} {ρ' : Rho} {H' : Hp} {vt : List V} (r : R P w K C pa U σ H ρ) (ha : Ars K (Wd U σ ρ) H σ vs as) (hs : argSls ρ as = some ss) (hn : (muts as).Nodup)
    (hN : ∀ p, N = some p → H p = none ∧ (p == sysModules) = false) (hb : wback ρ as ss' = some ρ')
    (hv : vt = nwV N)
    (sq : Sq P w K C (pa' (vs ++ vt)) (U' U σ ρ as) ((vs ++ vt).map some) (nwH P w H N) (ss ++ (nwS N.isSome)) ((vs ++ vt).map some) H' ss') :
    Sq P w K C pa U σ H ρ σ H' ρ' ∧ ∀ v d, Rp K (Wd (U' U σ ρ as) ((vs ++ vt).map some) ss') H' v d → Rp K (Wd U σ ρ') H' v d := by
  have hl : vs.length = ss.length := pair_len ha hs
  obtain ⟨g1, g2⟩ := argSls_get hs
  obtain ⟨w1, w2, w3⟩ := wback_spec hn hb
  have cs := call_start (N := N) r ha hs hn hN
  subst hv
  -- every slot of the caller, as it is now
  have slots : ∀ (j : Nat) (t : Sl), ρ'[j]? = some t → (j ∉ muts as ∧ ρ[j]? = some t) ∨ (∃ (i : Nat) (s s' : Sl), as[i]? = some (.slo j) ∧ ρ[j]? = some s ∧ ss'[i]? = some s' ∧ reown s s' = some t) := by
    intro j t hj
    by_cases hm : j ∈ muts as
    · right
      have : ∃ i : Nat, as[i]? = some (.slo j) := by
        clear w3 w2 w1 g2 g1 hl ha hs hn hb sq cs
        induction as with
        | nil => cases hm
        | cons a l ih =>
          cases a with
          | dat d => obtain ⟨i, e⟩ := ih hm; exact ⟨i + 1, by simpa using e⟩
          | slo b =>
            rcases List.mem_cons.mp hm with q | q
            · subst q; exact ⟨0, rfl⟩
            · obtain ⟨i, e⟩ := ih q; exact ⟨i + 1, by simpa using e⟩
      obtain ⟨i, e⟩ := this
      obtain ⟨s, s', t', e1, e2, e3, e4⟩ := w3 i j e
      rw [hj] at e4; cases e4
      exact ⟨i, s, s', e, e1, e2, e3⟩
    · left
      exact ⟨hm, by rw [← w2 j hm]; exact hj⟩
  have ownb : ∀ (j : Nat) (a : Addr), OwnAt σ ρ' j a → OwnAt σ ρ j a := by
    rintro j a ⟨t, h1, h2, h3⟩
    rcases slots j t h1 with ⟨_, e⟩ | ⟨i, s, s', e1, e2, e3, e4⟩
    · exact ⟨t, e, h2, h3⟩
    · exact ⟨s, e2, by rw [← (reown_isO e4).1]; exact h2, h3⟩
  -- the callee's own cells: handed over, or new
  have cown : ∀ a, Own ((vs ++ (nwV N)).map some) (ss ++ (nwS N.isSome)) a → Own σ ρ a ∨ H a = none := by
    rintro a ⟨i, s, h1, h2, h3⟩
    have h3' := sigma_get.mp h3
    by_cases hlt : i < ss.length
    · rw [List.getElem?_append_left hlt] at h1
      rw [List.getElem?_append_left (by omega)] at h3'
      have hia : i < as.length := by omega
      obtain ⟨s', e2, e3⟩ := g2 i as[i] (List.getElem?_eq_getElem hia)
      rw [h1] at e2; cases e2
      obtain ⟨v, e4, e5⟩ := paired_get ha (List.getElem?_eq_getElem hia)
      rw [h3'] at e4; cases e4
      obtain ⟨j, t, e6, e7, e8, e9⟩ := argSl_isO e3 h2
      rw [e6] at e5
      exact .inl ⟨j, t, e7, e8, e5⟩
    · right
      rw [List.getElem?_append_right (by omega), hl] at h3'
      cases N with
      | none => simp [nwV] at h3'
      | some p =>
        have hz : i - ss.length = 0 := by
          rcases Nat.lt_or_ge (i - ss.length) 1 with q | q
          · omega
          · rw [List.getElem?_eq_none (by simpa [nwV] using q)] at h3'; cases h3'
        rw [hz] at h3'
        simp [nwV] at h3'
        subst h3'
        exact (hN _ rfl).1
  have ex : Ex H (nwH P w H N) := by
    intro a o e
    cases N with
    | none => exact e
    | some p => exact Ex.new (hN p rfl).1 a o e
  have gr : Gr (Own σ ρ) H H' := ⟨fun a o e n t => sq.gr.keep a o (ex a o e) (fun z => (cown a z).elim n fun z => by rw [z] at e; cases e) t, fun a h => sq.gr.dom a (ex.dom h)⟩
  -- what is the caller's own now was handed over, or is outside
  have wsub : ∀ a, Wd U σ ρ' a → Wd (U' U σ ρ as) ((vs ++ (nwV N)).map some) ss' a := by
    rintro a (h | ⟨j, h⟩)
    · left
      exact ⟨.inl h, fun ⟨i, j, _, _, z⟩ => r.out a ⟨j, z⟩ h⟩
    · obtain ⟨t, h1, h2, h3⟩ := id h
      rcases slots j t h1 with ⟨hm, e⟩ | ⟨i, s, s', e1, e2, e3, e4⟩
      · left
        refine ⟨.inr ⟨j, ownb j a h⟩, fun ⟨i, j', _, z1, z2⟩ => hm ?_⟩
        have := r.apart j j' a (ownb j a h) z2
        subst this
        exact mem_muts z1
      · right
        obtain ⟨v, e5, e6⟩ := paired_get ha e1
        have e6' : σ[j]? = some (some v) := e6
        rw [h3] at e6'; cases e6'
        refine ⟨i, s', e3, reown_isO2 e4 (by rw [← (reown_isO e4).1]; exact h2), sigma_get.mpr ?_⟩
        rw [List.getElem?_append_left (List.getElem?_eq_some_iff.mp e5).1]
        exact e5
  have kp : Kp (Wd U σ ρ) H (Wd U σ ρ') H' := fun a u e n t => ⟨gr.keep a u e (fun z => n (.inr z)) t, fun z => z.elim (fun z => n (.inl z)) fun ⟨j, z⟩ => n (.inr ⟨j, ownb j a z⟩)⟩
  have kl : Kp (Wd (U' U σ ρ as) ((vs ++ (nwV N)).map some) ss') H' (Wd U σ ρ') H' := Kp.less wsub
  refine ⟨⟨⟨by rw [w1]; exact r.len, fun a h => gr.dom a (r.dom a h), sq.r.tabs, fun a ⟨j, z⟩ => r.out a ⟨j, ownb j a z⟩, fun i j a h1 h2 => r.apart i j a (ownb i a h1) (ownb j a h2), ?_⟩, gr, fun a ⟨j, z⟩ => .inl ⟨j, ownb j a z⟩⟩, fun v d h => Rp.kp kl h⟩
  intro j t hj
  rcases slots j t hj with ⟨hm, e⟩ | ⟨i, s, s', e1, e2, e3, e4⟩
  · refine (r.slot j t e).kp kp fun p o ho hp q => ?_
    -- not handed over: kept
    have hu : U' U σ ρ as p := ⟨.inr ⟨j, t, e, ho, hp⟩, fun ⟨i, j', _, z1, z2⟩ => hm (by
      have := r.apart j j' p ⟨t, e, ho, hp⟩ z2
      subst this
      exact mem_muts z1)⟩
    have nt : ∀ ps, o ≠ .tbl ps := fun ps z => by
      subst z
      have sl := r.slot j t e
      cases t with
      | un => cases ho
      | val d => cases ho
      | scr ns => cases ho
      | own fx ds => obtain ⟨p', vs', e', _, q', _⟩ := sl; rw [hp] at e'; cases e'; rw [q] at q'; cases q'
      | dic fx kvs => obtain ⟨p', e', _, xs, q', _⟩ := sl; rw [hp] at e'; cases e'; rw [q] at q'; cases q'
      | ins fx fs => obtain ⟨p', dx, vs', e', _, q', _⟩ := sl; rw [hp] at e'; cases e'; rw [q] at q'; cases q'
    exact sq.gr.keep p o (ex p o q) (fun z => cs.2.out p z hu) nt
  · obtain ⟨v, e5, e6⟩ := paired_get ha e1
    have e6' : σ[j]? = some (some v) := e6
    have sl := r.slot j s e2
    have sl' := sq.r.slot i s' e3
    have hvi : ((vs ++ (nwV N)).map some)[i]? = some (some v) := sigma_get.mpr (by rw [List.getElem?_append_left (List.getElem?_eq_some_iff.mp e5).1]; exact e5)
    rw [hvi] at sl'
    rw [e6'] at sl ⊢
    cases s <;> cases s' <;> simp only [reown, Option.some.injEq, reduceCtorEq] at e4 <;> subst e4
    all_goals first
      | (obtain ⟨v', z1, z2⟩ := sl; exact ⟨v', z1, Rp.kp kp z2⟩)
      | (obtain ⟨v', z1, z2⟩ := sl; exact ⟨v', z1, SL.kp kp z2⟩)
      | (obtain ⟨p, ws, z1, z2, z3, z4⟩ := sl
         obtain ⟨p', ws', y1, y2, y3, y4⟩ := sl'
         cases z1; cases y1
         exact ⟨p, ws', rfl, z2, y3, Rps.kp kl y4⟩)
      | (obtain ⟨p, z1, z2, z3⟩ := sl
         obtain ⟨p', y1, y2, y3⟩ := sl'
         cases z1; cases y1
         exact ⟨p, rfl, z2, DicAt.kp kl (fun o q => q) y3⟩)
      | (obtain ⟨p, dx, ws, z1, z2, z3, z4, z5⟩ := sl
         obtain ⟨p', dx', ws', y1, y2, y3, y4, y5⟩ := sl'
         cases z1; cases y1
         exact ⟨p, dx', ws', rfl, z2, y3, y4, FldsOk.kp kl y5⟩)
end
end Dm
namespace Dm
open PySem PySem.Spec PyProof.Rows L2 LamX
section
variable {X : Cx} {C : Cxt} {W : XW} {k : Nat}
/-! ### {} -/
theorem dic_empty {P : Program} {w : World} {H : Hp} (h : Heap) : ObjOk P w H (h.push { cls := .type "dict", data := .dict #[] }) h.objs.size (dicO P w h.objs.size []) := by
  refine ⟨⟨_, #[], 0, [], Heap.get?_push_size _ rfl, ⟨rfl, rfl, rfl⟩, rfl, rfl, .nil⟩, ⟨_, Heap.get?_push_size _ rfl⟩, ?_⟩
  rintro h1 h2 ⟨o, es, ep, ys, e1, e2, e3, e4, e5⟩ k
  exact ⟨o, es, ep, ys, k o e1, e2, e3, e4, e5⟩
def tNewD (P : Program) (w : World) : TE := fun _ H Q => ∀ p, H p = none → (p == sysModules) = false → Q (.ref p) (upd H p (dicO P w p []))
theorem pe_newD {pos : Pos} : PE X (.Dict [] [] pos) (tNewD X.prog X.w) := ⟨fun pins s σ H Q I h =>
  wpAny_Dict_empty ⟨.ref s.heap.objs.size, _, I.laid (a := s.heap.objs.size) (o := dicO X.prog X.w s.heap.objs.size []) (t' := s.toks) (fun _ _ q => Heap.get?_push_of_some _ q) (Nat.le_refl _) (dic_empty s.heap), rfl,
    h _ (I.hok.fresh (Nat.le_refl _)) (beq_eq_false_iff_ne.mpr (Ne.symm (Nat.ne_of_lt I.big)))⟩⟩
/-! ### arguments of a call -/
def GOk (C : Cxt) (X : Cx) (W : XW) (nw : Bool) (es : List Expr) (m : Rho → Res (List Ar)) : Prop := ∃ t, PA X es t ∧ ∀ pa U σ H ρ (Q : List V → Hp → Prop), RX X C pa U σ H ρ →
  Post X C W pa U σ H ρ (fun as ρ' H' => ∀ vs, Ars X.K (Wd U σ ρ') H' σ vs as → ∀ N : Option Addr, N.isSome = nw → (∀ p, N = some p → H' p = none ∧ (p == sysModules) = false) → Q (vs ++ nwV N) (nwH X.prog X.w H' N)) (m ρ) → t σ H Q
theorem gok_nil : GOk C X W false [] (fun ρ => .ok [] ρ) := ⟨tNil, pa_nil, fun pa U σ H ρ Q r h => h H (Sq.refl r) [] .nil none rfl (fun p z => nomatch z)⟩
theorem gok_new {pos : Pos} : GOk C X W true [.Dict [] [] pos] (fun ρ => .ok [] ρ) := ⟨tCons (tNewD X.prog X.w) tNil, pa_cons pe_newD pa_nil rfl, fun pa U σ H ρ Q r h => fun p h1 h2 => h H (Sq.refl r) [] .nil (some p) rfl (fun q z => by cases z; exact ⟨h1, h2⟩)⟩
def consG (m : Rho → Res Ar) (n : Rho → Res (List Ar)) : Rho → Res (List Ar) := fun ρ => (m ρ).bind fun x ρ1 => (n ρ1).bind fun xs ρ2 => .ok (x :: xs) ρ2
/-- one argument -/
def G1Ok (C : Cxt) (X : Cx) (W : XW) (e : Expr) (m : Rho → Res Ar) : Prop := ∀ pa U σ H ρ (Q : VK), RX X C pa U σ H ρ → Post X C W pa U σ H ρ (fun a ρ' H' => ∀ v, ArOk X.K (Wd U σ ρ') H' σ v a → Q v H') (m ρ) → tSem X e σ H Q
theorem gok_cons {nw : Bool} {e : Expr} {es : List Expr} {m : Rho → Res Ar} {n : Rho → Res (List Ar)} (he : G1Ok C X W e m) (hs : GOk C X W nw es n) (hp : plainE e = true) : GOk C X W nw (e :: es) (consG m n) := by
  obtain ⟨t, pt, ht⟩ := hs
  refine ⟨tCons (tSem X e) t, pa_cons pe_sem pt (star_of hp es X.env), fun pa U σ H ρ Q r h => ?_⟩
  refine he pa U σ H ρ _ r (h.bind fun a ρ1 H1 q1 h1 v ra => ?_)
  refine ht pa U σ H1 ρ1 _ q1.r (h1.bind fun as ρ2 H2 q2 h2 vs rs N e1 e2 => ?_)
  exact h2 H2 (Sq.refl q2.r) (v :: vs) (.cons (ra.kp q2.kp) rs) N e1 e2
def datR (m : Rho → Res D) : Rho → Res Ar := fun ρ => (m ρ).bind fun d ρ1 => .ok (.dat d) ρ1
theorem g1_dat {e : Expr} {m : Rho → Res D} (he : EOk C X W e m) : G1Ok C X W e (datR m) := by
  intro pa U σ H ρ Q r h
  refine he pa U σ H ρ _ r (h.bind fun d ρ1 H1 q1 h1 v rv => ?_)
  exact h1 H1 (Sq.refl q1.r) v rv
def sloR (j : Nat) : Rho → Res Ar := fun ρ => match argSl ρ (.slo j) with
  | some _ => .ok (.slo j) ρ
  | none => .bad
theorem slot_val {pa U} {σ : St} {H : Hp} {ρ : Rho} (r : RX X C pa U σ H ρ) {j : Nat} {s : Sl} (e : ρ[j]? = some s) (n : s ≠ .un) : ∃ v, σ[j]? = some (some v) := by
  have q := r.slot j s e
  cases s with
  | un => exact absurd rfl n
  | val d => obtain ⟨v, h, _⟩ := q; exact ⟨v, h⟩
  | own fx ds => obtain ⟨p, vs, h, _⟩ := q; exact ⟨_, h⟩
  | dic fx kvs => obtain ⟨p, h, _⟩ := q; exact ⟨_, h⟩
  | ins fx fs => obtain ⟨p, dx, vs, h, _⟩ := q; exact ⟨_, h⟩
  | scr ns => obtain ⟨a, h, _⟩ := q; exact ⟨_, h⟩
theorem g1_slo {i : Nat} {x : Str} {pos : Pos} (hN : X.N[i]? = some x) (hv : Vis X.env.scope x) (hd : (x == ("__debug__" : Str)) = false) (hcd : (x == ("__classdict__" : Str)) = false) : G1Ok C X W (.Name x pos) (sloR i) := by
  intro pa U σ H ρ Q r h
  unfold sloR at h
  cases e : argSl ρ (.slo i) with
  | some s =>
    rw [e] at h
    have : ∃ t, ρ[i]? = some t ∧ t ≠ .un := by
      simp only [argSl] at e
      split at e <;> first | (rename_i e'; exact ⟨_, e', fun z => nomatch z⟩) | cases e
    obtain ⟨t, e1, e2⟩ := this
    obtain ⟨v, hv'⟩ := slot_val r e1 e2
    exact sem_of (pe_var hN hv hd hcd) ⟨v, hv', h H (Sq.refl r) v hv'⟩
  | none => rw [e] at h; exact h.elim
/-! ### a call of a def of the text -/
abbrev xkOf (C : Cxt) (W : XW) (σ : St) : XK := fun cls d H => d = none ∧ ∃ c, cls = .ref (C.exa c) ∧ W c σ H
/-- the callee's promise, from the caller's wish -/
theorem call_sp {f : Fn} {nw : Bool} {as : List Ar} {pa U} {σ : St} {H : Hp} {ρ : Rho} {Q : VK} {vs : List V} {N : Option Addr} (r : RX X C pa U σ H ρ) (h : Post X C W pa U σ H ρ (YV X U σ Q) (callD f nw as ρ)) (ha : Ars X.K (Wd U σ ρ) H σ vs as)
    (e1 : N.isSome = nw) (hN : ∀ p, N = some p → H p = none ∧ (p == sysModules) = false) : spOf X.prog X.w X.K C f (vs ++ nwV N) (nwH X.prog X.w H N) Q (xkOf C W σ) := by
  unfold callD at h
  split at h
  · rename_i ss hs
    by_cases hc : (nodupB (muts as) && (ss.length + (if nw then 1 else 0) == f.ar)) = true
    · rw [if_pos hc] at h
      simp only [Bool.and_eq_true, beq_iff_eq] at hc
      have hn := nodupB_of hc.1
      have cs := call_start (N := N) r ha hs hn hN
      refine ⟨?_, pa' (vs ++ nwV N), U' U σ ρ as, ss ++ nwS nw, ?_, ?_, ?_⟩
      · rw [← hc.2, List.length_append, pair_len ha hs]
        subst e1
        cases N <;> rfl
      · subst e1; exact cs.1
      · subst e1; exact cs.2
      · cases hf : f.sem (ss ++ nwS nw) with
        | ok d ss' =>
          rw [hf] at h
          dsimp only at h ⊢
          intro v H' sq _ rv
          cases hb : wback ρ as ss' with
          | none => rw [hb] at h; exact h.elim
          | some ρ' =>
            rw [hb] at h
            subst e1
            obtain ⟨b1, b2⟩ := call_back (vt := nwV N) (N := N) r ha hs hn hN hb rfl sq
            exact h H' b1 v (b2 v d rv)
        | exc c ss' =>
          rw [hf] at h
          dsimp only at h ⊢
          intro H' sq _
          cases hb : wback ρ as ss' with
          | none => rw [hb] at h; exact h.elim
          | some ρ' =>
            rw [hb] at h
            subst e1
            obtain ⟨b1, b2⟩ := call_back (vt := nwV N) (N := N) r ha hs hn hN hb rfl sq
            exact ⟨rfl, c, rfl, h H' b1⟩
        | bad => rw [hf] at h; exact h.elim
    · rw [if_neg hc] at h; exact h.elim
  · exact h.elim
def callR (f : Fn) (nw : Bool) (m : Rho → Res (List Ar)) : Rho → Res D := fun ρ => (m ρ).bind fun as ρ1 => callD f nw as ρ1
theorem takes_pass (x : XOk C k X W) (σ : St) : PassesAt (L2N.CX X.prog X.w) X σ (xkOf C W σ) := L2N.passAt x.tk σ
theorem eok_call {f : Fn} {nw : Bool} {e : Expr} {es : List Expr} {m : Rho → Res (List Ar)} {p pos : Pos} (x : XOk C k X W) (av : Av X C k f) (hs : GOk C X W nw (e :: es) m) (hg : Gl X f.name) (hp : plainE e = true) (hps : es.all plainE = true) :
    EOk C X W (.Call (.Name f.name p) (e :: es) [] pos) (callR f nw m) := by
  intro pa U σ H ρ Q r h
  obtain ⟨t, pt, ht⟩ := hs
  obtain ⟨⟨a, fd, ps, h1, h2, h3, h4⟩, h5⟩ := av
  refine sem_of (pe_callS (E := xkOf C W) h4 x.room hg h1 h2 h3 (takes_pass x) pt h5 (star_of hp es X.env) (backTo_nostar hps pos X.env)) ?_
  refine ht pa U σ H ρ _ r (h.bind fun as ρ1 H1 q1 g1 vs rs N e1 e2 => ?_)
  exact call_sp q1.r g1 rs e1 e2
end
section
variable {X : Cx} {CX : CXT} {k : Nat} {f C : Addr} {fd : FuncData} {ps : List Str} {sp : Sp} {E : St → XK} {x m : Str} {p pos apos : Pos}
theorem pe_callS0 (F : FnOk X.prog X.w X.K X.mg X.base CX k f fd ps sp) (hr : Room k X.A) (hg : Gl X x) (hm : X.mg x = some (.ref f)) (hk : PySem.W.keepIn X.K (.ref f) = true) (hb : Binds X.K fd ps []) (hx : ∀ σ, PassesAt CX X σ (E σ))
    (hdb : (x == ("__debug__" : Str)) = false) : PE X (.Call (.Name x p) [] [] pos) (tCallS sp E tNil) := by
  refine ⟨fun pins s σ H Q I h => ?_⟩
  refine wpAny_Call_Name_kw (ld_glob I hg hm ?_ hdb)
  exact PySem.W.callWith_K0 I.kIn hk (run_fnS (us := []) F hr hb (hx σ) I .nil h)
end
section
variable {C : Cxt} {k : Nat} {X : Cx} {W : XW}
theorem eok_call0 {f : Fn} {p pos : Pos} (x : XOk C k X W) (av : Av X C k f) (hg : Gl X f.name) : EOk C X W (.Call (.Name f.name p) [] [] pos) (callR f false fun ρ => .ok [] ρ) := by
  intro pa U σ H ρ Q r h
  obtain ⟨⟨a, fd, ps, h1, h2, h3, h4⟩, h5⟩ := av
  refine sem_of (pe_callS0 (E := xkOf C W) h4 x.room hg h1 h2 h3 (takes_pass x) h5) ?_
  have h' : Post X C W pa U σ H ρ (YV X U σ Q) (callD f false [] ρ) := h
  have := call_sp (vs := []) (N := none) (nw := false) r h' .nil rfl (fun p z => by cases z)
  exact this
end
end Dm
namespace Dm
open PySem PySem.Spec PyProof.Rows L2 LamX
section
variable {X : Cx} {C : Cxt} {W : XW} {k : Nat}
/-- J walks the data ds, from now on -/
structure Wk (K : PySem.W.Frag) (J : L2.It) (ds : List D) (W0 : AP) (H0 : Hp) : Prop where
  go : ∀ (W : AP) (H : Hp) (i : Nat) (d : D), Kp W0 H0 W H → (∀ a, W a → H a ≠ none) → ds[i]? = some d → J.go i H ∧ ∀ x H', J.yld i H x H' → Ex H H' ∧ Rp K W H' x d
  stop : ∀ (W : AP) (H : Hp) (i : Nat), Kp W0 H0 W H → ds.length ≤ i → J.stop i H
theorem wk_list {K : PySem.W.Frag} {W : AP} {H : Hp} {a : Addr} {xs : List V} {ds : List D} (n : ¬ W a) (h : H a = some (.lst xs)) (r : Rps K W H xs ds) : Wk K (Itl K a) ds W H := by
  refine ⟨fun W1 H1 i d k _ e => ?_, fun W1 H1 i k l => ⟨xs, SqL.of (k a _ h n (fun ps z => nomatch z)).1, by rw [r.length]; exact l⟩⟩
  obtain ⟨v, hv, rv⟩ := r.get e
  have h1 := SqL.of (K := K) (k a _ h n (fun ps z => nomatch z)).1
  refine ⟨⟨xs, v, h1, hv⟩, fun x H' y => ?_⟩
  obtain ⟨e1, y⟩ := y
  subst e1
  have := y xs h1
  rw [hv] at this; cases this
  exact ⟨Ex.rfl' _, rv.kp k⟩
theorem wk_tup {K : PySem.W.Frag} {W : AP} {H : Hp} {a : Addr} {xs : List V} {ds : List D} (h : STp K W H a xs) (r : Rps K W H xs ds) : Wk K (Itt K a) ds W H := by
  refine ⟨fun W1 H1 i d k _ e => ?_, fun W1 H1 i k l => ⟨xs, (h.kp k).sq, by rw [r.length]; exact l⟩⟩
  obtain ⟨v, hv, rv⟩ := r.get e
  have h1 := (h.kp k).sq
  refine ⟨⟨xs, v, h1, hv⟩, fun x H' y => ?_⟩
  obtain ⟨e1, y⟩ := y
  subst e1
  have := y xs h1
  rw [hv] at this; cases this
  exact ⟨Ex.rfl' _, rv.kp k⟩
def intsD (lo : Int) (n : Nat) : List D := (List.range n).map fun (i : Nat) => PyData.int (lo + i)
theorem wk_rng {K : PySem.W.Frag} {W : AP} {H : Hp} {lo : Int} {n : Nat} : Wk K (Itr lo n) (intsD lo n) W H := by
  refine ⟨fun W1 H1 i d k _ e => ?_, fun W1 H1 i k l => by
    show n ≤ i
    simpa [intsD] using l⟩
  have hi : i < n := by
    have := (List.getElem?_eq_some_iff.mp e).1
    simpa [intsD] using this
  refine ⟨hi, fun x H' y => ?_⟩
  obtain ⟨e1, y⟩ := y
  subst e1 y
  have : d = .int (lo + i) := by
    unfold intsD at e
    rw [List.getElem?_map, List.getElem?_range hi] at e
    simpa using e.symm
  subst this
  exact ⟨Ex.rfl' _, .int _⟩
def chars (x : Str) : List D := x.cps.toList.map fun c => PyData.str ⟨#[c]⟩
theorem wk_str {K : PySem.W.Frag} {W : AP} {H : Hp} {x : Str} (hx : StrOk x) : Wk K (Its x) (chars x) W H := by
  refine ⟨fun W1 H1 i d k _ e => ?_, fun W1 H1 i k l => by
    show x.cps.size ≤ i
    simpa [chars] using l⟩
  have hi : i < x.cps.size := by
    have := (List.getElem?_eq_some_iff.mp e).1
    simpa [chars] using this
  refine ⟨hi, fun v H' y => ?_⟩
  obtain ⟨e1, c, e2, e3⟩ := y
  subst e1 e3
  have : d = .str ⟨#[c]⟩ := by
    unfold chars at e
    rw [List.getElem?_map, Array.getElem?_toList, e2] at e
    simpa using e.symm
  subst this
  refine ⟨Ex.rfl' _, .str _ ⟨?_, ?_⟩⟩
  · have h1 := hx.all
    rw [Array.all_eq_true] at h1
    have := h1 i hi
    have e4 : x.cps[i] = c := by rw [Array.getElem?_eq_getElem hi] at e2; exact Option.some.inj e2
    rw [e4] at this
    simpa using this
  · show 1 ≤ sizeLine
    rw [sizeLine_eq]; omega
def enumD : Nat → List D → List D
  | _, [] => []
  | i, d :: ds => .tuple [.int (i : Nat), d] :: enumD (i + 1) ds
theorem enumD_length : ∀ (i : Nat) (ds : List D), (enumD i ds).length = ds.length
  | _, [] => rfl
  | i, _ :: ds => by simp [enumD, enumD_length (i + 1) ds]
theorem enumD_get : ∀ (j : Nat) (ds : List D) (i : Nat), (enumD j ds)[i]? = (ds[i]?).map fun d => .tuple [.int ((j + i : Nat)), d]
  | _, [], i => by simp [enumD]
  | j, d :: ds, 0 => by simp [enumD]
  | j, d :: ds, i + 1 => by
    simp only [enumD, List.getElem?_cons_succ]
    rw [enumD_get (j + 1) ds i]
    have : j + 1 + i = j + (i + 1) := by omega
    rw [this]
theorem rp_pair {K : PySem.W.Frag} {W : AP} {H : Hp} {T : Addr} {x : V} {d : D} {i : Nat} (dom : ∀ a, W a → H a ≠ none) (hT : H T = none) (r : Rp K W H x d) : Rp K W (upd H T (.tup [.int (i : Nat), x])) (.ref T) (.tuple [.int (i : Nat), d]) :=
  Rp.newT (fun z => dom T z hT) hT (.cons (.int _) (.cons r .nil))
theorem wk_enumL {K : PySem.W.Frag} {W : AP} {H : Hp} {a : Addr} {xs : List V} {ds : List D} (n : ¬ W a) (h : H a = some (.lst xs)) (r : Rps K W H xs ds) : Wk K (Ite K a) (enumD 0 ds) W H := by
  refine ⟨fun W1 H1 i d k dom e => ?_, fun W1 H1 i k l => ⟨xs, SqL.of (k a _ h n (fun ps z => nomatch z)).1, by rw [r.length, ← enumD_length 0]; exact l⟩⟩
  rw [enumD_get, Nat.zero_add] at e
  obtain ⟨d', e1, e2⟩ := Option.map_eq_some_iff.mp e
  subst e2
  obtain ⟨v, hv, rv⟩ := r.get e1
  have h1 := SqL.of (K := K) (k a _ h n (fun ps z => nomatch z)).1
  refine ⟨⟨xs, v, h1, hv⟩, fun x H' ⟨T, y, e3, hT, e4, hy⟩ => ?_⟩
  have := hy xs h1
  rw [hv] at this; cases this
  subst e3 e4
  exact ⟨Ex.new hT, rp_pair dom hT (rv.kp k)⟩
theorem wk_enumT {K : PySem.W.Frag} {W : AP} {H : Hp} {a : Addr} {xs : List V} {ds : List D} (h : STp K W H a xs) (r : Rps K W H xs ds) : Wk K (IteT K a) (enumD 0 ds) W H := by
  refine ⟨fun W1 H1 i d k dom e => ?_, fun W1 H1 i k l => ⟨xs, (h.kp k).sq, by rw [r.length, ← enumD_length 0]; exact l⟩⟩
  rw [enumD_get, Nat.zero_add] at e
  obtain ⟨d', e1, e2⟩ := Option.map_eq_some_iff.mp e
  subst e2
  obtain ⟨v, hv, rv⟩ := r.get e1
  have h1 := (h.kp k).sq
  refine ⟨⟨xs, v, h1, hv⟩, fun x H' ⟨T, y, e3, hT, e4, hy⟩ => ?_⟩
  have := hy xs h1
  rw [hv] at this; cases this
  subst e3 e4
  exact ⟨Ex.new hT, rp_pair dom hT (rv.kp k)⟩
theorem rev_get {α : Type} {ds : List α} {i : Nat} {d : α} (e : ds.reverse[i]? = some d) : i < ds.length ∧ ds[ds.length - 1 - i]? = some d := by
  have hi : i < ds.length := by
    have := (List.getElem?_eq_some_iff.mp e).1
    simpa using this
  rw [List.getElem?_reverse hi] at e
  exact ⟨hi, e⟩
theorem wk_revL {K : PySem.W.Frag} {W : AP} {H : Hp} {a : Addr} {xs : List V} {ds : List D} (n : ¬ W a) (h : H a = some (.lst xs)) (r : Rps K W H xs ds) : Wk K (Itv K a xs.length) ds.reverse W H := by
  refine ⟨fun W1 H1 i d k _ e => ?_, fun W1 H1 i k l => by
    show xs.length ≤ i
    rw [r.length]; simpa using l⟩
  obtain ⟨hi, e⟩ := rev_get e
  rw [← r.length] at hi e
  obtain ⟨v, hv, rv⟩ := r.get e
  have h1 := SqL.of (K := K) (k a _ h n (fun ps z => nomatch z)).1
  refine ⟨⟨hi, xs, v, h1, hv⟩, fun x H' y => ?_⟩
  obtain ⟨e1, y⟩ := y
  subst e1
  have := y xs h1
  rw [hv] at this; cases this
  exact ⟨Ex.rfl' _, rv.kp k⟩
theorem wk_revT {K : PySem.W.Frag} {W : AP} {H : Hp} {a : Addr} {xs : List V} {ds : List D} (h : STp K W H a xs) (r : Rps K W H xs ds) : Wk K (RT.ItvT K a xs.length) ds.reverse W H := by
  refine ⟨fun W1 H1 i d k _ e => ?_, fun W1 H1 i k l => by
    show xs.length ≤ i
    rw [r.length]; simpa using l⟩
  obtain ⟨hi, e⟩ := rev_get e
  rw [← r.length] at hi e
  obtain ⟨v, hv, rv⟩ := r.get e
  have h1 := (h.kp k).sq
  refine ⟨⟨hi, xs, v, h1, hv⟩, fun x H' y => ?_⟩
  obtain ⟨e1, y⟩ := y
  subst e1
  have := y xs h1
  rw [hv] at this; cases this
  exact ⟨Ex.rfl' _, rv.kp k⟩
/-! ### what a loop walks -/
def IOk (C : Cxt) (X : Cx) (W : XW) (tg e : Expr) (m : Rho → Res (List D)) : Prop := ∀ pa U σ H ρ (R : L2.It → Hp → Prop), RX X C pa U σ H ρ → Post X C W pa U σ H ρ (fun ds ρ' H' => ∀ J, Wk X.K J ds (Wd U σ ρ') H' → R J H') (m ρ) → tiSem X tg e σ H R
def itsD : D → Option (List D)
  | .list ds => some ds
  | .tuple ds => some ds
  | .str x => some (chars x)
  | _ => none
def itR (m : Rho → Res D) : Rho → Res (List D) := fun ρ => (m ρ).bind fun d ρ1 => lift (itsD d) ρ1
theorem iok_dat {tg e : Expr} {m : Rho → Res D} (he : EOk C X W e m) : IOk C X W tg e (itR m) := by
  intro pa U σ H ρ R r h
  unfold itR at h
  cases em : m ρ with
  | bad => rw [em] at h; exact h.elim
  | exc c ρ' =>
    refine semI_of (pi_list pe_sem) (he pa U σ H ρ _ r ?_)
    rw [em] at h ⊢
    exact h
  | ok d ρ' =>
    rw [em, Res.bind_ok] at h
    cases d with
    | list ds =>
      refine semI_of (pi_list pe_sem) (he pa U σ H ρ _ r ?_)
      rw [em]
      intro H' q v rv
      obtain ⟨a, xs, rfl, n, ha, rs⟩ := rv.inv_lst
      exact ⟨a, rfl, ⟨xs, SqL.of ha⟩, h H' q _ (wk_list n ha rs)⟩
    | tuple ds =>
      refine semI_of (pi_tup pe_sem) (he pa U σ H ρ _ r ?_)
      rw [em]
      intro H' q v rv
      obtain ⟨a, xs, rfl, ha, rs⟩ := rv.inv_tup
      exact ⟨a, rfl, ⟨xs, ha.sq⟩, h H' q _ (wk_tup ha rs)⟩
    | str x =>
      refine semI_of (pi_str pe_sem) (he pa U σ H ρ _ r ?_)
      rw [em]
      intro H' q v rv
      cases rv with
      | str _ hx => exact ⟨x, rfl, h H' q _ (wk_str hx)⟩
    | _ => exact h.elim
def smallI (i : Int) : Bool := decide (-(2 ^ 62) ≤ i) && decide (i < 2 ^ 62)
theorem smallI_of {i : Int} (h : smallI i = true) : -(2 ^ 62) ≤ i ∧ i < 2 ^ 62 := by
  unfold smallI at h
  simpa using h
def rng1R (m : Rho → Res D) : Rho → Res (List D) := fun ρ => (m ρ).bind fun d ρ1 => match d with
  | .int j => if smallI j then .ok (intsD 0 j.toNat) ρ1 else .bad
  | _ => .bad
theorem iok_rng1 {tg e : Expr} {m : Rho → Res D} {p pos : Pos} (x : XOk C k X W) (hg : Gl X "range") (he : EOk C X W e m) (hp : plainE e = true) : IOk C X W tg (.Call (.Name "range" p) [e] [] pos) (rng1R m) := by
  intro pa U σ H ρ R r h
  refine semI_of (pi_range1 hg x.rng (pa_cons (pe_sem (e := e)) pa_nil (star_of hp [] X.env)) (star_of hp [] X.env)) ?_
  refine one_val he r h fun d ρ1 H1 vx q1 rx h1 => ?_
  cases d <;> try exact h1.elim
  rename_i j
  dsimp only at h1
  split at h1
  · rename_i hs
    obtain ⟨s1, s2⟩ := smallI_of hs
    exact ⟨j, by rw [rx.inv_int], s1, s2, h1 H1 (Sq.refl q1.r) _ wk_rng⟩
  · exact h1.elim
def rng2R (m n : Rho → Res D) : Rho → Res (List D) := fun ρ => (m ρ).bind fun d ρ1 => (n ρ1).bind fun f ρ2 => match d, f with
  | .int i, .int j => if smallI i && smallI j then .ok (intsD i (j - i).toNat) ρ2 else .bad
  | _, _ => .bad
theorem iok_rng2 {tg a b : Expr} {m n : Rho → Res D} {p pos : Pos} (x : XOk C k X W) (hg : Gl X "range") (ha : EOk C X W a m) (hb : EOk C X W b n) (hp : plainE a = true) (hp2 : plainE b = true) : IOk C X W tg (.Call (.Name "range" p) [a, b] [] pos) (rng2R m n) := by
  intro pa U σ H ρ R r h
  refine semI_of (pi_range2 hg x.rng (pa_cons (pe_sem (e := a)) (pa_cons (pe_sem (e := b)) pa_nil (star_of hp2 [] X.env)) (star_of hp _ X.env)) (by rw [star_of hp, star_of hp2]; rfl) (star_of hp2 [] X.env)) ?_
  refine two_vals ha hb r h fun d f ρ2 H2 vx vy q2 rx ry h2 => ?_
  cases d <;> try exact h2.elim
  cases f <;> try exact h2.elim
  rename_i i j
  dsimp only at h2
  split at h2
  · rename_i hs
    simp only [Bool.and_eq_true] at hs
    obtain ⟨s1, s2⟩ := smallI_of hs.1
    obtain ⟨s3, s4⟩ := smallI_of hs.2
    exact ⟨i, j, by rw [rx.inv_int, ry.inv_int], ⟨s1, s2, s3, s4⟩, h2 H2 (Sq.refl q2.r) _ wk_rng⟩
  · exact h2.elim
def seqD : D → Option (List D)
  | .list ds => some ds
  | .tuple ds => some ds
  | _ => none
def enumR (m : Rho → Res D) : Rho → Res (List D) := fun ρ => (m ρ).bind fun d ρ1 => match seqD d with
  | some ds => .ok (enumD 0 ds) ρ1
  | none => .bad
theorem iok_enum {e : Expr} {m : Rho → Res D} {p pos tpos : Pos} {elts : List Expr} {kk : Nat} (x : XOk C k X W) (hg : Gl X "enumerate") (he : EOk C X W e m) (hp : plainE e = true) : IOk C X W (.Tuple elts kk tpos) (.Call (.Name "enumerate" p) [e] [] pos) (enumR m) := by
  intro pa U σ H ρ R r h
  refine semI_of (pi_enumA hg x.enm (pe_sem (e := e)) (star_of hp [] X.env)) ?_
  refine he pa U σ H ρ _ r (h.bind fun d ρ1 H1 q1 h1 v rv => ?_)
  cases d <;> try exact h1.elim
  rotate_left
  · obtain ⟨a, xs, rfl, ha, rs⟩ := rv.inv_tup
    exact ⟨a, xs, rfl, .inr ⟨ha.sq, h1 H1 (Sq.refl q1.r) _ (wk_enumT ha rs)⟩⟩
  · obtain ⟨a, xs, rfl, n, ha, rs⟩ := rv.inv_lst
    exact ⟨a, xs, rfl, .inl ⟨SqL.of ha, h1 H1 (Sq.refl q1.r) _ (wk_enumL n ha rs)⟩⟩
def revR (m : Rho → Res D) : Rho → Res (List D) := fun ρ => (m ρ).bind fun d ρ1 => match seqD d with
  | some ds => .ok ds.reverse ρ1
  | none => .bad
theorem iok_rev {tg e : Expr} {m : Rho → Res D} {p pos : Pos} (x : XOk C k X W) (hg : Gl X "reversed") (he : EOk C X W e m) (hp : plainE e = true) : IOk C X W tg (.Call (.Name "reversed" p) [e] [] pos) (revR m) := by
  intro pa U σ H ρ R r h
  refine semI_of (RT.pi_revA hg x.rev (pe_sem (e := e)) (star_of hp [] X.env)) ?_
  refine he pa U σ H ρ _ r (h.bind fun d ρ1 H1 q1 h1 v rv => ?_)
  cases d <;> try exact h1.elim
  rotate_left
  · obtain ⟨a, xs, rfl, ha, rs⟩ := rv.inv_tup
    exact ⟨a, xs, rfl, .inr ⟨ha.sq, h1 H1 (Sq.refl q1.r) _ (wk_revT ha rs)⟩⟩
  · obtain ⟨a, xs, rfl, n, ha, rs⟩ := rv.inv_lst
    exact ⟨a, xs, rfl, .inl ⟨SqL.of ha, h1 H1 (Sq.refl q1.r) _ (wk_revL n ha rs)⟩⟩
/-! ### list(range(a, b)) -/
def lrgR (m n : Rho → Res D) : Rho → Res D := fun ρ => (m ρ).bind fun d ρ1 => (n ρ1).bind fun f ρ2 => match d, f with
  | .int i, .int j => if (smallI i && smallI j) && decide ((j - i).toNat ≤ 2 ^ 24) then .ok (.list (intsD i (j - i).toNat)) ρ2 else .bad
  | _, _ => .bad
theorem rgV_rps {K : PySem.W.Frag} {W : AP} {H : Hp} (i j : Int) : Rps K W H (L2.rgV i j) (intsD i (j - i).toNat) := by
  have h := Rps.ofInts (K := K) (W := W) (H := H) ((List.range (j - i).toNat).map fun k : Nat => i + (k : Int))
  rw [List.map_map, List.map_map] at h
  exact h
theorem eok_lrg {a b : Expr} {m n : Rho → Res D} {p pos p2 pos2 : Pos} (x : XOk C k X W) (hl : Gl X "list") (hg : Gl X "range") (ha : EOk C X W a m) (hb : EOk C X W b n) (hp : plainE a = true) (hp2 : plainE b = true) : EOk C X W (.Call (.Name "list" p) [.Call (.Name "range" p2) [a, b] [] pos2] [] pos) (lrgR m n) := by
  intro pa U σ H ρ R r h
  refine sem_of (pe_listRg x.calm hl (x.bt .list) (prg_2 hg x.rng (pe_sem (e := a)) (pe_sem (e := b)) (star_of hp _ X.env) (star_of hp2 _ X.env) (by rw [star_of hp2]; rfl)) (by rfl)) ?_
  refine two_vals ha hb r h fun d f ρ2 H2 vx vy q2 rx ry h2 => ?_
  cases d <;> try exact h2.elim
  cases f <;> try exact h2.elim
  rename_i i j
  dsimp only at h2
  split at h2
  · rename_i hs
    simp only [Bool.and_eq_true, decide_eq_true_eq] at hs
    obtain ⟨s1, s2⟩ := smallI_of hs.1.1
    obtain ⟨s3, s4⟩ := smallI_of hs.1.2
    refine ⟨i, j, by rw [rx.inv_int], by rw [ry.inv_int], ⟨s1, s2, s3, s4, hs.2⟩, fun p hp => ?_⟩
    exact h2 _ (Sq.ex q2.r (Ex.new hp)) _ (Rp.newL (q2.r.fresh hp) hp (rgV_rps i j))
  · exact h2.elim
end
end Dm
namespace Dm
open PySem PySem.Spec PyProof.Rows L2 LamX
/-! ### targets -/
mutual
inductive Pt where
  | nm (i : Nat)
  | tp (ps : Pts)
inductive Pts where
  | nil
  | cons (p : Pt) (ps : Pts)
end
mutual
def Pt.ixs : Pt → List Nat
  | .nm i => [i]
  | .tp ps => ps.ixs
def Pts.ixs : Pts → List Nat
  | .nil => []
  | .cons p ps => p.ixs ++ ps.ixs
end
def Pts.len : Pts → Nat
  | .nil => 0
  | .cons _ ps => ps.len + 1
mutual
def bindP : Pt → D → Rho → Option Rho
  | .nm i, d, ρ => some (ρ.set i (.val d))
  | .tp ps, .tuple ds, ρ => if ds.length = ps.len then bindPs ps ds ρ else none
  | .tp _, _, _ => none
def bindPs : Pts → List D → Rho → Option Rho
  | .nil, _, ρ => some ρ
  | .cons p ps, d :: ds, ρ => match bindP p d ρ with
    | some ρ1 => bindPs ps ds ρ1
    | none => none
  | .cons _ _, [], _ => none
end
section
variable {P : Program} {w : World} {K : PySem.W.Frag} {C : Cxt} {pa : Nat → Addr} {U : AP} {σ : St} {H : Hp} {ρ : Rho}
theorem ownAt_set2 {i j : Nat} {x : Option V} {s : Sl} {a : Addr} (h : OwnAt (σ.set i x) (ρ.set i s) j a) : (j ≠ i ∧ OwnAt σ ρ j a) ∨ (j = i ∧ s.isO = true ∧ x = some (.ref a) ∧ i < ρ.length) := by
  obtain ⟨t, h1, h2, h3⟩ := h
  by_cases e : i = j
  · subst e
    right
    by_cases hl : i < ρ.length
    · rw [List.getElem?_set_self hl] at h1
      cases h1
      by_cases hl2 : i < σ.length
      · rw [List.getElem?_set_self hl2] at h3
        cases h3
        exact ⟨rfl, h2, rfl, hl⟩
      · rw [List.getElem?_eq_none (by simpa using hl2)] at h3; cases h3
    · rw [List.getElem?_eq_none (by simpa using hl)] at h1; cases h1
  · rw [List.getElem?_set_ne e] at h1 h3
    exact .inl ⟨Ne.symm e, t, h1, h2, h3⟩
/-- a slot that owns nothing, set -/
theorem set_val {i : Nat} {x : Option V} {s : Sl} (r : R P w K C pa U σ H ρ) (hs : s.isO = false) (ho : ∀ W, Kp (Wd U σ ρ) H W H → SlOk P w K C pa W H i (some x) s) : Sq P w K C pa U σ H ρ (σ.set i x) H (ρ.set i s) := by
  have own : ∀ j a, OwnAt (σ.set i x) (ρ.set i s) j a → OwnAt σ ρ j a := fun j a h => by
    rcases ownAt_set2 h with ⟨_, h⟩ | ⟨_, z, _⟩
    · exact h
    · rw [hs] at z; cases z
  have wd : ∀ a, Wd U (σ.set i x) (ρ.set i s) a → Wd U σ ρ a := fun a h => h.elim .inl fun ⟨j, z⟩ => .inr ⟨j, own j a z⟩
  have kp : Kp (Wd U σ ρ) H (Wd U (σ.set i x) (ρ.set i s)) H := Kp.less wd
  refine ⟨⟨by rw [List.length_set, List.length_set]; exact r.len, r.dom, r.tabs, fun a ⟨j, z⟩ => r.out a ⟨j, own j a z⟩, fun j l a h1 h2 => r.apart j l a (own j a h1) (own l a h2), fun j t hj => ?_⟩, Gr.refl H, fun a ⟨j, z⟩ => .inl ⟨j, own j a z⟩⟩
  by_cases e : i = j
  · subst e
    have hl : i < ρ.length := by
      have := (List.getElem?_eq_some_iff.mp hj).1
      simpa using this
    rw [List.getElem?_set_self hl] at hj
    cases hj
    rw [List.getElem?_set_self (by rw [r.len]; exact hl)]
    exact ho _ kp
  · rw [List.getElem?_set_ne e] at hj
    rw [List.getElem?_set_ne e]
    exact (r.slot j t hj).kp kp fun p o _ _ q => q
theorem set_dat {i : Nat} {x : V} {d : D} (r : R P w K C pa U σ H ρ) (rv : Rp K (Wd U σ ρ) H x d) : Sq P w K C pa U σ H ρ (σ.set i (some x)) H (ρ.set i (.val d)) :=
  set_val r rfl fun W k => ⟨x, rfl, rv.kp k⟩
theorem set_un {i : Nat} {x : Option V} (r : R P w K C pa U σ H ρ) : Sq P w K C pa U σ H ρ (σ.set i x) H (ρ.set i .un) := set_val r rfl fun W k => trivial
end
section
variable {X : Cx} {C : Cxt} {W : XW} {k : Nat}
/-- a target, given its datum -/
def TgOk (C : Cxt) (X : Cx) (p : Pt) (tg : Expr) : Prop := ∃ g, PG X tg g ∧ ∀ pa U σ H ρ x d ρ' (Q : St → Hp → Prop), RX X C pa U σ H ρ → bindP p d ρ = some ρ' → Rp X.K (Wd U σ ρ) H x d →
  (∀ σ', SqX X C pa U σ H ρ σ' H ρ' → (∀ j, j ∉ p.ixs → σ'[j]? = σ[j]?) → Q σ' H) → g x σ H Q
def TgsOk (C : Cxt) (X : Cx) (ps : Pts) (ts : List Expr) : Prop := ∃ g, PGs X ts g ∧ ∀ pa U σ H ρ xs ds ρ' (Q : St → Hp → Prop), RX X C pa U σ H ρ → bindPs ps ds ρ = some ρ' → Rps X.K (Wd U σ ρ) H xs ds → ds.length = ps.len →
  (∀ σ', SqX X C pa U σ H ρ σ' H ρ' → (∀ j, j ∉ ps.ixs → σ'[j]? = σ[j]?) → Q σ' H) → g xs σ H Q
theorem tg_name {i : Nat} {x : Str} {pos : Pos} (hN : X.N.Nodup) (hi : X.N[i]? = some x) (hx : Loc X.env.scope x) (hf : X.fn x = true ∨ X.env.scope.names.lookup x = some .local) : TgOk C X (.nm i) (.Name x pos) := by
  refine ⟨gName i, pg_name hN hi hx hf, fun pa U σ H ρ x d ρ' Q r hb rv q => ?_⟩
  simp only [bindP, Option.some.injEq] at hb
  subst hb
  refine q _ (set_dat r rv) fun j hj => ?_
  rw [List.getElem?_set_ne]
  intro e
  subst e
  exact hj (by simp [Pt.ixs])
/-- no star in a target -/
def plainTs : List Expr → Bool
  | [] => true
  | e :: es => plainE e && plainTs es
theorem assignEach_cons {e : Expr} {es : List Expr} {env : Env} (h : plainE e = true) : assignEach (e :: es) env = (false, assign e env) :: assignEach es env := by
  cases e <;> first | rfl | cases h
theorem plainTs_of : ∀ {es : List Expr} {env : Env}, plainTs es = true → (assignEach es env).length = es.length ∧ (assignEach es env).findIdx? (·.1) = none
  | [], env, _ => ⟨rfl, rfl⟩
  | e :: es, env, h => by
    unfold plainTs at h
    simp only [Bool.and_eq_true] at h
    obtain ⟨h1, h2⟩ := plainTs_of (env := env) h.2
    rw [assignEach_cons h.1]
    refine ⟨by simp [h1], ?_⟩
    rw [List.findIdx?_cons]
    simp [h2]
theorem tgs_nil : TgsOk C X .nil [] := by
  refine ⟨gNil, pgs_nil, fun pa U σ H ρ xs ds ρ' Q r hb rs hl q => ?_⟩
  simp only [bindPs, Option.some.injEq] at hb
  subst hb
  cases ds with
  | nil => cases rs; exact ⟨rfl, q σ (Sq.refl r) fun _ _ => rfl⟩
  | cons => simp [Pts.len] at hl
theorem tgs_cons {p : Pt} {ps : Pts} {e : Expr} {es : List Expr} (h1 : TgOk C X p e) (h2 : TgsOk C X ps es) (hp : plainE e = true) : TgsOk C X (.cons p ps) (e :: es) := by
  obtain ⟨g, pg, hg⟩ := h1
  obtain ⟨u, pu, hu⟩ := h2
  refine ⟨gCons g u, pgs_cons pg pu (by rw [assignEach_cons hp]; rfl), fun pa U σ H ρ xs ds ρ' Q r hb rs hl q => ?_⟩
  cases ds with
  | nil => simp [Pts.len] at hl
  | cons d ds =>
    cases rs with
    | cons rd rr =>
      rename_i v vs
      simp only [bindPs] at hb
      split at hb
      · rename_i ρ1 e1
        refine ⟨v, vs, rfl, hg pa U σ H ρ v d ρ1 _ r e1 rd fun σ1 s1 k1 => ?_⟩
        refine hu pa U σ1 H ρ1 vs ds ρ' Q s1.r hb (Rps.kp s1.kp rr) (by simp [Pts.len] at hl; exact hl) fun σ2 s2 k2 => ?_
        refine q σ2 (s1.trans s2) fun j hj => ?_
        simp only [Pts.ixs, List.mem_append, not_or] at hj
        rw [k2 j hj.2, k1 j hj.1]
      · cases hb
theorem tg_tup {ps : Pts} {es : List Expr} {kk : Nat} {pos : Pos} (hc : X.calm = true) (h : TgsOk C X ps es) (hp : plainTs es = true) (hl : es.length = ps.len) : TgOk C X (.tp ps) (.Tuple es kk pos) := by
  obtain ⟨g, pg, hg⟩ := h
  obtain ⟨e1, e2⟩ := plainTs_of (env := X.env) hp
  refine ⟨gTup X.K ps.len g, pg_tup hc pg (by rw [e1, hl]) e2, fun pa U σ H ρ x d ρ' Q r hb rv q => ?_⟩
  cases d <;> simp only [bindP, reduceCtorEq] at hb
  rename_i ds
  split at hb
  · rename_i hd
    obtain ⟨a, xs, rfl, ha, rs⟩ := rv.inv_tup
    exact ⟨a, xs, rfl, ha.sq, by rw [rs.length, hd], hg pa U σ H ρ xs ds ρ' Q r hb rs hd q⟩
  · cases hb
/-! ### comprehensions -/
/-- a block's own slots, forgotten -/
def wiped (ρ : Rho) : List Nat → Rho
  | [] => ρ
  | v :: vs => (wiped ρ vs).set v .un
/-- and given back -/
def unwiped (ρ0 ρ : Rho) : List Nat → Rho
  | [] => ρ
  | v :: vs => (unwiped ρ0 ρ vs).set v (ρ0[v]?.getD .un)
def nox {α : Type} : Res α → Res α
  | .exc _ _ => .bad
  | r => r
/-- the turns of a comprehension -/
def compL (p : Pt) (vs : List Nat) (tst : Option (Rho → Res D)) (elt : Rho → Res D) : List D → Rho → Res (List D)
  | [], ρ => .ok [] ρ
  | d :: ds, ρ => match bindP p d ρ with
    | none => .bad
    | some ρ1 => match tst with
      | none => (nox (elt ρ1)).bind fun y ρ2 => (compL p vs tst elt ds (wiped ρ2 vs)).bind fun ys ρ3 => .ok (y :: ys) ρ3
      | some t => (nox (t ρ1)).bind fun b ρ2 => match b with
        | .bool true => (nox (elt ρ2)).bind fun y ρ3 => (compL p vs tst elt ds (wiped ρ3 vs)).bind fun ys ρ4 => .ok (y :: ys) ρ4
        | .bool false => compL p vs tst elt ds (wiped ρ2 vs)
        | _ => .bad
def freeB (ρ : Rho) (vs : List Nat) : Bool := vs.all fun v => match ρ[v]? with
  | some s => !s.isO
  | none => true
def compR (p : Pt) (vs : List Nat) (it : Rho → Res (List D)) (tst : Option (Rho → Res D)) (elt : Rho → Res D) : Rho → Res D := fun ρ => (it ρ).bind fun ds ρ1 =>
  if ds.length ≤ 1000000 && freeB ρ1 vs then (nox (compL p vs tst elt ds (wiped ρ1 vs))).bind fun ys ρ2 => .ok (.list ys) (unwiped ρ1 ρ2 vs) else .bad
theorem nox_ok {α : Type} {r : Res α} {a : α} {ρ : Rho} (h : nox r = .ok a ρ) : r = .ok a ρ := by
  cases r <;> simp only [nox, reduceCtorEq] at h
  exact h
theorem bind_ok_inv {α β : Type} {r : Res α} {f : α → Rho → Res β} {b : β} {ρ : Rho} (h : r.bind f = .ok b ρ) : ∃ a ρ1, r = .ok a ρ1 ∧ f a ρ1 = .ok b ρ := by
  cases r with
  | ok a ρ1 => exact ⟨a, ρ1, rfl, h⟩
  | exc c ρ1 => cases h
  | bad => cases h
theorem wipe_idem (σ σ' : St) (vs : List Nat) (hl : σ'.length = σ.length) (h : ∀ j, j ∉ vs → σ'[j]? = (wipe σ vs)[j]?) : wipe σ' vs = wipe σ vs := by
  have key : ∀ (τ : St) (ws : List Nat) (j : Nat), j < τ.length → (wipe τ ws)[j]? = if j ∈ ws then some none else τ[j]? := by
    intro τ ws
    induction ws with
    | nil => intro j _; simp [wipe]
    | cons v ws ih =>
      intro j hj
      unfold wipe
      by_cases e : v = j
      · subst e
        rw [List.getElem?_set_self (by rw [wipe_length]; exact hj)]
        simp
      · rw [List.getElem?_set_ne e, ih j hj]
        by_cases m : j ∈ ws
        · simp [m]
        · simp [m, Ne.symm e]
  apply List.ext_getElem?
  intro j
  by_cases hj : j < σ.length
  · rw [key σ' vs j (by omega), key σ vs j hj]
    by_cases m : j ∈ vs
    · simp [m]
    · simp only [m, if_false]
      rw [h j m, key σ vs j hj]
      simp [m]
  · rw [List.getElem?_eq_none (by rw [wipe_length]; omega), List.getElem?_eq_none (by rw [wipe_length]; omega)]
end
end Dm
namespace Dm
open PySem PySem.Spec PyProof.Rows L2 LamX
section
variable {P : Program} {w : World} {K : PySem.W.Frag} {C : Cxt} {pa : Nat → Addr} {U U' : AP} {σ σ' : St} {H H1 : Hp} {ρ ρ1 ρi : Rho}
theorem wipe_sq (r : R P w K C pa U σ H ρ) : ∀ vs : List Nat, Sq P w K C pa U σ H ρ (wipe σ vs) H (wiped ρ vs)
  | [] => Sq.refl r
  | v :: vs => (wipe_sq r vs).trans (set_un (wipe_sq r vs).r)
theorem R.less (h : ∀ a, U a → U' a) (r : R P w K C pa U' σ H ρ) : R P w K C pa U σ H ρ :=
  ⟨r.len, fun a z => r.dom a (h a z), r.tabs, fun a z u => r.out a z (h a u), r.apart, fun i s e => (r.slot i s e).kp (Kp.less fun a z => z.elim (fun z => .inl (h a z)) .inr) fun p o _ _ q => q⟩
theorem Sq.less (h : ∀ a, U a → U' a) (q : Sq P w K C pa U' σ H ρ σ' H1 ρ1) : Sq P w K C pa U σ H ρ σ' H1 ρ1 := ⟨q.r.less h, q.gr, q.sub⟩
theorem R.updU {D : Addr} {xs ys : List V} (r : R P w K C pa U σ H ρ) (hD : U D) (h : H D = some (.lst xs)) : R P w K C pa U σ (upd H D (.lst ys)) ρ ∧ Kp (Wd U σ ρ) H (Wd U σ ρ) (upd H D (.lst ys)) := by
  have kp : Kp (Wd U σ ρ) H (Wd U σ ρ) (upd H D (.lst ys)) := fun a u e n _ => ⟨by rw [upd_ne (fun z => n (by rw [z]; exact .inl hD))]; exact e, n⟩
  refine ⟨⟨r.len, fun a z => ?_, tabs_upd r.tabs h (fun ps z => nomatch z) (fun q z => nomatch z), r.out, r.apart, fun i s e => (r.slot i s e).kp kp fun p o ho hp q => ?_⟩, kp⟩
  · by_cases e : a = D
    · rw [e, upd_same]; exact fun z => nomatch z
    · rw [upd_ne e]; exact r.dom a z
  · rw [upd_ne]
    · exact q
    · intro z
      exact r.out p ⟨i, s, e, ho, hp⟩ (by rw [z]; exact hD)
theorem upd_self' {H : Hp} {a : Addr} {o : HO} (h : H a = some o) : upd H a o = H := by
  funext b
  by_cases e : b = a
  · rw [e, upd_same, h]
  · rw [upd_ne e]
theorem wipe_get : ∀ (vs : List Nat) (j : Nat), j < σ.length → (wipe σ vs)[j]? = if j ∈ vs then some none else σ[j]?
  | [], j, _ => by simp [wipe]
  | v :: vs, j, hj => by
    unfold wipe
    by_cases e : v = j
    · subst e
      rw [List.getElem?_set_self (by rw [wipe_length]; exact hj)]
      simp
    · rw [List.getElem?_set_ne e, wipe_get vs j hj]
      by_cases m : j ∈ vs
      · simp [m]
      · simp [m, Ne.symm e]
theorem unwiped_len {ρ0 ρ : Rho} : ∀ vs : List Nat, (unwiped ρ0 ρ vs).length = ρ.length
  | [] => rfl
  | v :: vs => by unfold unwiped; rw [List.length_set, unwiped_len vs]
theorem unwiped_get {ρ0 ρ : Rho} : ∀ (vs : List Nat) (j : Nat), j < ρ.length → (unwiped ρ0 ρ vs)[j]? = if j ∈ vs then some (ρ0[j]?.getD .un) else ρ[j]?
  | [], j, _ => by simp [unwiped]
  | v :: vs, j, hj => by
    unfold unwiped
    by_cases e : v = j
    · subst e
      rw [List.getElem?_set_self (by rw [unwiped_len]; exact hj)]
      simp
    · rw [List.getElem?_set_ne e, unwiped_get vs j hj]
      by_cases m : j ∈ vs
      · simp [m]
      · simp [m, Ne.symm e]
theorem freeB_of {vs : List Nat} (h : freeB ρ vs = true) {j : Nat} {s : Sl} (hj : j ∈ vs) (e : ρ[j]? = some s) : s.isO = false := by
  unfold freeB at h
  have := List.all_eq_true.mp h j hj
  rw [e] at this
  simpa using this
theorem unwipe {vs : List Nat} (r0 : R P w K C pa U σ H ρ) (hf : freeB ρ vs = true) (sq : Sq P w K C pa U σ H ρ (wipe σ vs) H1 ρi) :
    Sq P w K C pa U σ H ρ σ H1 (unwiped ρ ρi vs) ∧ ∀ a, Wd U σ (unwiped ρ ρi vs) a → Wd U (wipe σ vs) ρi a := by
  have hl : σ.length = ρi.length := by rw [← sq.r.len, wipe_length]
  have hl0 := r0.len
  have own : ∀ j a, OwnAt σ (unwiped ρ ρi vs) j a → j ∉ vs ∧ OwnAt (wipe σ vs) ρi j a := by
    rintro j a ⟨s, h1, h2, h3⟩
    have hj : j < ρi.length := by
      have := (List.getElem?_eq_some_iff.mp h1).1
      rwa [unwiped_len] at this
    rw [unwiped_get vs j hj] at h1
    by_cases m : j ∈ vs
    · rw [if_pos m] at h1
      cases e : ρ[j]? with
      | none => rw [e] at h1; cases h1; cases h2
      | some t =>
        rw [e] at h1
        cases h1
        rw [show (some t).getD Sl.un = t from rfl, freeB_of hf m e] at h2
        cases h2
    · rw [if_neg m] at h1
      refine ⟨m, s, h1, h2, ?_⟩
      rw [wipe_get vs j (by omega), if_neg m]
      exact h3
  have wd : ∀ a, Wd U σ (unwiped ρ ρi vs) a → Wd U (wipe σ vs) ρi a := fun a h => h.elim .inl fun ⟨j, z⟩ => .inr ⟨j, (own j a z).2⟩
  have kl : Kp (Wd U (wipe σ vs) ρi) H1 (Wd U σ (unwiped ρ ρi vs)) H1 := Kp.less wd
  have kp : Kp (Wd U σ ρ) H (Wd U σ (unwiped ρ ρi vs)) H1 := sq.kp.trans kl
  refine ⟨⟨⟨by rw [unwiped_len]; exact hl, sq.r.dom, sq.r.tabs, fun a ⟨j, z⟩ => sq.r.out a ⟨j, (own j a z).2⟩, fun i j a h1 h2 => sq.r.apart i j a (own i a h1).2 (own j a h2).2, fun j s hj => ?_⟩, sq.gr, fun a ⟨j, z⟩ => sq.sub a ⟨j, (own j a z).2⟩⟩, wd⟩
  have hj' : j < ρi.length := by
    have := (List.getElem?_eq_some_iff.mp hj).1
    rwa [unwiped_len] at this
  rw [unwiped_get vs j hj'] at hj
  by_cases m : j ∈ vs
  · rw [if_pos m] at hj
    cases e : ρ[j]? with
    | none => rw [e] at hj; cases hj; trivial
    | some t =>
      rw [e] at hj
      cases hj
      exact (r0.slot j t e).kp kp fun p o ho _ _ => by rw [show (some t).getD Sl.un = t from rfl, freeB_of hf m e] at ho; cases ho
  · rw [if_neg m] at hj
    have q := sq.r.slot j s hj
    rw [wipe_get vs j (by omega), if_neg m] at q
    exact q.kp kl fun p o _ _ z => z
end
mutual
theorem bindP_len : ∀ {p : Pt} {d : D} {ρ ρ' : Rho}, bindP p d ρ = some ρ' → ρ'.length = ρ.length
  | .nm i, d, ρ, ρ', h => by
    simp only [bindP, Option.some.injEq] at h
    rw [← h, List.length_set]
  | .tp ps, d, ρ, ρ', h => by
    cases d <;> simp only [bindP, reduceCtorEq] at h
    split at h
    · exact bindPs_len h
    · cases h
theorem bindPs_len : ∀ {ps : Pts} {ds : List D} {ρ ρ' : Rho}, bindPs ps ds ρ = some ρ' → ρ'.length = ρ.length
  | .nil, ds, ρ, ρ', h => by
    simp only [bindPs, Option.some.injEq] at h
    rw [← h]
  | .cons p ps, [], ρ, ρ', h => by simp only [bindPs, reduceCtorEq] at h
  | .cons p ps, d :: ds, ρ, ρ', h => by
    simp only [bindPs] at h
    split at h
    · rename_i ρ1 e
      rw [bindPs_len h, bindP_len e]
    · cases h
end
section
variable {X : Cx} {C : Cxt} {W : XW} {k : Nat}
def gSem (X : Cx) (tg : Expr) : TG := fun v σ H Q => ∀ pins s u, Inv X pins σ H s → RelV v u → wpAny (model X.prog X.w) X.A (assign tg X.env u) (fun _ s' => ∃ σ' H', Inv X pins σ' H' s' ∧ Q σ' H') X.xe s
theorem pg_gsem {tg : Expr} : PG X tg (gSem X tg) := ⟨fun pins s σ H v u Q I r h => h pins s u I r⟩
abbrev Blk (X : Cx) (scope : Scope) (s : Shared) (H : Hp) (A : Addr) (cl : List (Str × Addr)) (fp : List Addr) : Cx := X.blk s H scope (compEnvC scope cl A X.env) fp
abbrev NoX : XW := fun _ _ _ => False
theorem xok_blk (x : XOk C k X W) (scope : Scope) (s : Shared) (H : Hp) (A : Addr) (cl : List (Str × Addr)) (fp : List Addr) : XOk C k (Blk X scope s H A cl fp) NoX :=
  ⟨x.calm, x.nd, x.room, x.bt, x.ty, x.isi, x.rng, x.enm, x.rev, x.st, fun u s' ⟨_, _, _, _, _, _, _, _, _, _, _, _, _, _, _, _, h, c, _, z⟩ => z.elim⟩
/-- the readings in a block, whatever block it is -/
def uG (X : Cx) (scope : Scope) (tg : Expr) : TG := fun v σ H Q => ∀ s H0 A cl fp, gSem (Blk X scope s H0 A cl fp) tg v σ H Q
def uT (X : Cx) (scope : Scope) (c : Expr) : TT := fun σ H Q => ∀ s H0 A cl fp, ttSem (Blk X scope s H0 A cl fp) c σ H Q
def uE (X : Cx) (scope : Scope) (e : Expr) : TE := fun σ H Q => ∀ s H0 A cl fp, tSem (Blk X scope s H0 A cl fp) e σ H Q
def uTs (X : Cx) (scope : Scope) : List Expr → TT
  | [] => tYes
  | c :: _ => uT X scope c
def tstL : List Expr → Bool
  | [] => true
  | [_] => true
  | _ => false
/-- the clause's tests and what they mean -/
def TstOk (C : Cxt) (X : Cx) (ifs : List Expr) (t : Option (Rho → Res D)) : Prop := match ifs, t with
  | [], none => True
  | [c], some m => TOk C X NoX c m
  | _, _ => False
theorem lc_read {elt tg iter : Expr} {ifs : List Expr} {scope : Scope} {own : List (Str × Nat)} {p : Pt} {it : Rho → Res (List D)} {tst : Option (Rho → Res D)} {em : Rho → Res D} (x : XOk C k X W) (ok : BlkOk X.N X.env.scope scope own)
    (hi : IOk C X W tg iter it) (hg : ∀ s H A cl fp, TgOk C (Blk X scope s H A cl fp) p tg) (ht : ∀ s H A cl fp, TstOk C (Blk X scope s H A cl fp) ifs tst) (he : ∀ s H A cl fp, EOk C (Blk X scope s H A cl fp) NoX elt em)
    (shape : (ifs = [] ∧ tst = none) ∨ (∃ c m, ifs = [c] ∧ tst = some m)) (hp : ∀ i ∈ p.ixs, i ∈ own.map (·.2)) (hs : ∀ v, foldedSetIterable iter X.env v = pure v) :
    ∀ pa U σ H ρ (Q : VK), RX X C pa U σ H ρ → Post X C W pa U σ H ρ (YV X U σ Q) (compR p (own.map (·.2)) it tst em ρ) → tLc (tiSem X tg iter) (uG X scope tg) (uTs X scope ifs) (uE X scope elt) (own.map (·.2)) σ H Q := by
  intro pa U σ H ρ Q r h
  generalize hvs : own.map (·.2) = vs at h hp ⊢
  refine hi pa U σ H ρ _ r (h.bind fun ds ρ1 H1 q1 h1 J wk => ?_)
  intro D hD
  have hc : (decide (ds.length ≤ 1000000) && freeB ρ1 vs) = true := Decidable.byContradiction fun z => by rw [if_neg z] at h1; exact h1.elim
  rw [if_pos hc] at h1
  simp only [Bool.and_eq_true, decide_eq_true_eq] at hc
  obtain ⟨hlen, hfree⟩ := hc
  -- the comprehension ends
  cases hw : compL p vs tst em ds (wiped ρ1 vs) with
  | bad => rw [hw] at h1; exact h1.elim
  | exc c ρ' => rw [hw] at h1; exact h1.elim
  | ok ys ρend =>
  rw [hw] at h1
  let UD : AP := fun a => U a ∨ a = D
  have sub : ∀ a, U a → UD a := fun a z => .inl z
  have nD : ¬ Wd U σ ρ1 D := q1.r.fresh hD
  let Iv : Nat → Nat → Hp → Prop := fun i m H' => m = ds.length - i ∧ i ≤ ds.length ∧ ∃ (ρi : Rho) (accD rest : List PyData) (accV : List V), SqX X C pa U σ H1 ρ1 (wipe σ vs) H' ρi ∧ RX X C pa UD (wipe σ vs) H' ρi ∧ H' D = some (.lst accV) ∧
    Rps X.K (Wd UD (wipe σ vs) ρi) H' accV accD ∧ accD.length ≤ i ∧ compL p vs tst em (ds.drop i) ρi = .ok rest ρend ∧ ys = accD ++ rest
  refine ⟨Iv, ⟨ds.length, rfl, Nat.zero_le _, wiped ρ1 vs, [], ys, [], ?_, ?_, upd_same, .nil, Nat.le_refl _, hw, rfl⟩, ?_⟩
  · exact (Sq.ex q1.r (Ex.new hD)).trans (wipe_sq (q1.r.ex (Ex.new hD)) vs)
  · have r2 := (wipe_sq (q1.r.ex (Ex.new hD) (H1 := upd H1 D (.lst []))) vs).r
    have own2 : ∀ a, Own (wipe σ vs) (wiped ρ1 vs) a → Own σ ρ1 a := fun a z => ((wipe_sq q1.r vs).sub a z).elim id fun z' => absurd z (fun z => (wipe_sq q1.r vs).r.wdom (.inr z) z')
    have kp : Kp (Wd U (wipe σ vs) (wiped ρ1 vs)) H1 (Wd UD (wipe σ vs) (wiped ρ1 vs)) (upd H1 D (.lst [])) := fun a u e n _ => ⟨by rw [upd_ne (ne_of_none e hD)]; exact e, fun z => z.elim (fun z => z.elim (fun z => n (.inl z)) fun z => (ne_of_none e hD) z) fun z => n (.inr z)⟩
    have r3 := (wipe_sq q1.r vs).r
    refine ⟨r2.len, fun a z => ?_, r2.tabs, fun a z u => ?_, r2.apart, fun i s e => (r3.slot i s e).kp kp fun q o _ _ e' => by rw [upd_ne (ne_of_none e' hD)]; exact e'⟩
    · rcases z with z | z
      · exact r2.dom a z
      · rw [z, upd_same]; exact fun z => nomatch z
    · rcases u with u | u
      · exact r2.out a z u
      · exact nD (.inr (own2 D (by rw [← u]; exact z)))
  · rintro i m H2 ⟨rfl, hi2, ρi, accD, rest, accV, sq, rD, hDv, rps, hacc, hcomp, hys⟩
    have kpD : Kp (Wd U σ ρ1) H1 (Wd UD (wipe σ vs) ρi) H2 := fun a u e n t => ⟨(sq.kp a u e n t).1, fun z => z.elim (fun z => z.elim (fun z => (sq.kp a u e n t).2 (.inl z)) fun z => (ne_of_none e hD) z) fun z => (sq.kp a u e n t).2 (.inr z)⟩
    rcases Nat.lt_or_ge i ds.length with hlt | hge
    rotate_left
    · -- the end
      left
      have hie : i = ds.length := by omega
      subst hie
      refine ⟨wk.stop _ _ _ kpD (Nat.le_refl _), ?_⟩
      rw [List.drop_length] at hcomp
      simp only [compL, Res.ok.injEq] at hcomp
      obtain ⟨e1, e2⟩ := hcomp
      subst e1 e2
      rw [List.append_nil] at hys
      subst hys
      obtain ⟨s1, s2⟩ := unwipe q1.r hfree sq
      refine h1 H2 s1 _ (.lst (fun z => ?_) hDv (Rps.kp (Kp.less fun a z => (s2 a z).elim (fun z => .inl (.inl z)) .inr) rps))
      exact (s2 D z).elim (fun z => nD (.inl z)) fun z => rD.out D z (.inr rfl)
    · right
      have hd : ds[i]? = some ds[i] := List.getElem?_eq_getElem hlt
      obtain ⟨hgo, hyld⟩ := wk.go _ _ i _ kpD (fun a z => rD.wdom z) hd
      refine ⟨hgo, fun H' => Iv (i + 1) (ds.length - (i + 1)) H', fun H' z => ⟨_, by omega, z⟩, fun v H3 hy => ?_⟩
      obtain ⟨hex, rv⟩ := hyld v H3 hy
      rw [List.drop_eq_getElem_cons hlt] at hcomp
      -- the target
      cases hb : bindP p ds[i] ρi with
      | none => simp only [compL, hb, reduceCtorEq] at hcomp
      | some ρb =>
      simp only [compL, hb] at hcomp
      intro s0 H0 A cl fp
      refine (fun (z : ∃ g, PG _ tg g ∧ _) => z) (hg s0 H0 A cl fp) |>.elim fun g ⟨pg, hgq⟩ => ?_
      refine fun pins s u I ru => pg.run pins s _ _ _ _ _ I ru ?_
      refine hgq pa UD (wipe σ vs) H3 ρi v ds[i] ρb _ (rD.ex hex) hb rv fun σ2 sq2 hj => ?_
      have hw2 : wipe σ2 vs = wipe σ vs := wipe_idem σ σ2 vs (by rw [sq2.r.len, bindP_len hb, ← rD.len, wipe_length]) fun j hj' => by rw [hj j (fun z => hj' (hp j z))]
      have sqA : SqX X C pa UD (wipe σ vs) H2 ρi σ2 H3 ρb := (Sq.ex rD hex).trans sq2
      refine ⟨hw2, ?_⟩
      -- what is done with an element
      have fin : ∀ (ρ3 : Rho) (H4 : Hp) (accD' rest' : List PyData) (accV' : List V), SqX X C pa UD (wipe σ vs) H2 ρi σ2 H4 ρ3 → compL p vs tst em (ds.drop (i + 1)) (wiped ρ3 vs) = .ok rest' ρend → ys = accD' ++ rest' → accD'.length ≤ i + 1 →
          Rps X.K (Wd UD σ2 ρ3) H4 accV' accD' → Iv (i + 1) (ds.length - (i + 1)) (upd H4 D (.lst accV')) := by
        intro ρ3 H4 accD' rest' accV' sq4 hc4 hy4 hl4 rs4
        have hD4 : H4 D = some (.lst accV) := sq4.gr.keep D _ hDv (fun z => rD.out D z (.inr rfl)) fun ps z => nomatch z
        have sq5 : SqX X C pa UD σ2 H4 ρ3 (wipe σ vs) H4 (wiped ρ3 vs) := by rw [← hw2]; exact wipe_sq sq4.r vs
        obtain ⟨r6, k6⟩ := R.updU (ys := accV') sq5.r (.inr rfl) hD4
        have sqU : SqX X C pa U σ H1 ρ1 (wipe σ vs) H4 (wiped ρ3 vs) := sq.trans ((sq4.trans sq5).less sub)
        refine ⟨rfl, by omega, wiped ρ3 vs, accD', rest', accV', ⟨r6.less sub, ⟨fun a o e n t => ?_, fun a z => ?_⟩, sqU.sub⟩, r6, upd_same, Rps.kp (sq5.kp.trans k6) rs4, hl4, hc4, hy4⟩
        · rw [upd_ne (ne_of_none e hD)]; exact sqU.gr.keep a o e n t
        · by_cases e : a = D
          · rw [e, upd_same]; exact fun z => nomatch z
          · rw [upd_ne e]; exact sqU.gr.dom a z
      -- an element comes
      have one : ∀ (ρ2 : Rho) (H4 : Hp) (rest' : List PyData) (y : PyData), SqX X C pa UD (wipe σ vs) H2 ρi σ2 H4 ρ2 → (∃ ρ3, em ρ2 = .ok y ρ3 ∧ compL p vs tst em (ds.drop (i + 1)) (wiped ρ3 vs) = .ok rest' ρend) → rest = y :: rest' →
          uE X scope elt σ2 H4 fun yv H5 => ∃ acc, H5 D = some (.lst acc) ∧ acc.length < sizeLine ∧ Iv (i + 1) (ds.length - (i + 1)) (upd H5 D (.lst (acc ++ [yv]))) := by
        rintro ρ2 H4 rest' y sq4 ⟨ρ3, e1, e2⟩ e3
        intro s0 H0 A cl fp
        refine he s0 H0 A cl fp pa UD σ2 H4 ρ2 _ sq4.r ?_
        rw [e1]
        intro H5 sq5 yv ry
        have sq6 := sq4.trans sq5
        refine ⟨accV, sq6.gr.keep D _ hDv (fun z => rD.out D z (.inr rfl)) (fun ps z => nomatch z), by rw [rps.length, sizeLine_eq]; omega, ?_⟩
        refine fin ρ3 H5 (accD ++ [y]) rest' (accV ++ [yv]) sq6 e2 (by rw [hys, e3]; simp) (by simp; exact hacc) ((Rps.kp sq6.kp rps).append (.cons ry .nil))
      rcases shape with ⟨e, e'⟩ | ⟨c, tm, e, e'⟩
      · subst e e'
        show uTs X scope [] σ2 H3 _
        dsimp only at hcomp
        obtain ⟨y, ρ3, f1, f2⟩ := bind_ok_inv hcomp
        obtain ⟨rest', ρ4, f3, f4⟩ := bind_ok_inv f2
        simp only [Res.ok.injEq] at f4
        obtain ⟨f5, f6⟩ := f4
        subst f5 f6
        show (if true = true then uE X scope elt σ2 H3 _ else Iv (i + 1) (ds.length - (i + 1)) H3)
        rw [if_pos rfl]
        exact one ρb H3 rest' y sqA ⟨ρ3, nox_ok f1, f3⟩ rfl
      · subst e e'
        dsimp only at hcomp
        obtain ⟨b, ρ2, f1, f2⟩ := bind_ok_inv hcomp
        have f1 := nox_ok f1
        show uT X scope c σ2 H3 _
        intro s0 H0 A cl fp
        refine (show TOk C _ NoX c tm from ht s0 H0 A cl fp) pa UD σ2 H3 ρb _ sqA.r ?_
        rw [f1]
        intro H4 sq4
        have sqB := sqA.trans sq4
        split at f2
        · refine ⟨true, rfl, ?_⟩
          rw [if_pos rfl]
          obtain ⟨y, ρ3, g1, g2⟩ := bind_ok_inv f2
          obtain ⟨rest', ρ4, g3, g4⟩ := bind_ok_inv g2
          simp only [Res.ok.injEq] at g4
          obtain ⟨g5, g6⟩ := g4
          subst g5 g6
          exact one ρ2 H4 rest' y sqB ⟨ρ3, nox_ok g1, g3⟩ rfl
        · refine ⟨false, rfl, ?_⟩
          rw [if_neg Bool.false_ne_true]
          have hD4 : H4 D = some (.lst accV) := sqB.gr.keep D _ hDv (fun z => rD.out D z (.inr rfl)) fun ps z => nomatch z
          have := fin ρ2 H4 accD rest accV sqB f2 hys (by omega) (Rps.kp sqB.kp rps)
          rwa [upd_self' hD4] at this
        · cases f2
theorem lc_pts {ifs : List Expr} {scope : Scope} {tst : Option (Rho → Res D)} (shape : (ifs = [] ∧ tst = none) ∨ (∃ c m, ifs = [c] ∧ tst = some m)) : ∀ s H A cl fp, PTs (Blk X scope s H A cl fp) ifs (uTs X scope ifs) := by
  intro s H A cl fp
  rcases shape with ⟨e, _⟩ | ⟨c, m, e, _⟩
  · subst e; exact pts_nil
  · subst e; exact pts_one ⟨fun pins s1 σ H Q I h => h s _ A cl fp pins s1 I⟩
theorem eok_lc {elt tg iter : Expr} {ifs : List Expr} {scope : Scope} {own : List (Str × Nat)} {pos : Pos} {p : Pt} {it : Rho → Res (List D)} {tst : Option (Rho → Res D)} {em : Rho → Res D} (x : XOk C k X W) (ok : BlkOk X.N X.env.scope scope own)
    (hi : IOk C X W tg iter it) (hg : ∀ s H A cl fp, TgOk C (Blk X scope s H A cl fp) p tg) (ht : ∀ s H A cl fp, TstOk C (Blk X scope s H A cl fp) ifs tst) (he : ∀ s H A cl fp, EOk C (Blk X scope s H A cl fp) NoX elt em)
    (shape : (ifs = [] ∧ tst = none) ∨ (∃ c m, ifs = [c] ∧ tst = some m)) (hp : ∀ i ∈ p.ixs, i ∈ own.map (·.2)) (hs : ∀ v, foldedSetIterable iter X.env v = pure v) :
    EOk C X W (.ListComp elt [⟨tg, iter, ifs, 0⟩] scope pos) (compR p (own.map (·.2)) it tst em) := by
  intro pa U σ H ρ Q r h
  refine sem_of (pe_lc (wi := tiSem X tg iter) (g := uG X scope tg) (tt := uTs X scope ifs) (te := uE X scope elt) x.calm x.nd pi_sem ok (fun s H A cl fp => ⟨fun pins s1 σ H v u Q I r h => h s _ A cl fp pins s1 u I r⟩) (lc_pts shape) (fun s H A cl fp => ⟨fun pins s1 σ H Q I h => h s _ A cl fp pins s1 I⟩) hs) ?_
  exact lc_read x ok hi hg ht he shape hp hs pa U σ H ρ Q r h
end
end Dm
namespace Dm
open PySem PySem.Spec PyProof.Rows L2 LamX
/-! ### dicts -/
section
variable {α β : Type}
def fndK (xs : List (NestedKey × α)) (k : NestedKey) : Option (NestedKey × α) := xs.find? fun x => decide (x.1 = k)
def stF (xs : List (NestedKey × α)) (k : NestedKey) (f : α → α) (n : α) : List (NestedKey × α) :=
  if (fndK xs k).isSome then xs.map (fun x => if x.1 = k then (x.1, f x.2) else x) else xs ++ [(k, n)]
theorem find_rel {F : NestedKey × α → NestedKey × β → Prop} (hF : ∀ a b, F a b → a.1 = b.1) (k : NestedKey) : ∀ {l : List (NestedKey × α)} {m : List (NestedKey × β)}, Paired F l m →
    (fndK l k = none ∧ fndK m k = none) ∨ ∃ a b, fndK l k = some a ∧ fndK m k = some b ∧ F a b ∧ a.1 = k
  | _, _, .nil => .inl ⟨rfl, rfl⟩
  | a :: l, b :: m, .cons r t => by
    have e := hF _ _ r
    by_cases h : a.1 = k
    · right
      refine ⟨a, b, ?_, ?_, r, h⟩
      · simp [fndK, h]
      · simp [fndK, ← e, h]
    · have h' : ¬ b.1 = k := by rw [← e]; exact h
      have := find_rel hF k t
      simpa [fndK, h, h'] using this
theorem st_rel {F : NestedKey × α → NestedKey × β → Prop} (hF : ∀ a b, F a b → a.1 = b.1) {k : NestedKey} {f : α → α} {g : β → β} {n : α} {n' : β} {l : List (NestedKey × α)} {m : List (NestedKey × β)} (p : Paired F l m)
    (h1 : ∀ a b, F a b → a.1 = k → F (a.1, f a.2) (b.1, g b.2)) (h2 : F (k, n) (k, n')) : Paired F (stF l k f n) (stF m k g n') := by
  have key : ∀ {l : List (NestedKey × α)} {m : List (NestedKey × β)}, Paired F l m → Paired F (l.map fun x => if x.1 = k then (x.1, f x.2) else x) (m.map fun x => if x.1 = k then (x.1, g x.2) else x) := by
    intro l m p
    induction p with
    | nil => exact .nil
    | @cons a b l m r t ih =>
      refine .cons ?_ ih
      have e := hF _ _ r
      by_cases h : a.1 = k
      · show F (if a.1 = k then (a.1, f a.2) else a) (if b.1 = k then (b.1, g b.2) else b)
        rw [if_pos h, if_pos (by rw [← e]; exact h)]
        exact h1 a b r h
      · show F (if a.1 = k then (a.1, f a.2) else a) (if b.1 = k then (b.1, g b.2) else b)
        rw [if_neg h, if_neg (by rw [← e]; exact h)]
        exact r
  unfold stF
  rcases find_rel hF k p with ⟨e1, e2⟩ | ⟨a, b, e1, e2, _⟩
  · rw [e1, e2]
    exact Paired.snoc p h2
  · rw [e1, e2]
    exact key p
theorem st_keys {k : NestedKey} {f : α → α} {n : α} {l : List (NestedKey × α)} (h : (l.map (·.1)).Nodup) : ((stF l k f n).map (·.1)).Nodup := by
  unfold stF
  split
  · have : (l.map fun x => if x.1 = k then (x.1, f x.2) else x).map (·.1) = l.map (·.1) := by
      rw [List.map_map]
      refine List.map_congr_left fun x _ => ?_
      by_cases e : x.1 = k <;> simp [e]
    rw [this]
    exact h
  · rename_i hn
    rw [List.map_append, List.nodup_append]
    refine ⟨h, by simp, fun a ha b hb e => ?_⟩
    simp only [List.map_cons, List.map_nil, List.mem_singleton] at hb
    subst hb e
    obtain ⟨x, hx, e⟩ := List.mem_map.mp ha
    apply hn
    unfold fndK
    rw [List.find?_isSome]
    exact ⟨x, hx, by simpa using e⟩
theorem st_len {k : NestedKey} {f : α → α} {n : α} {l : List (NestedKey × α)} : (stF l k f n).length ≤ l.length + 1 := by
  unfold stF
  split <;> simp
end
def dGet (kvs : List (NestedKey × D)) (k : NestedKey) : Option D := (fndK kvs k).map (·.2)
def dPut (kvs : List (NestedKey × D)) (k : NestedKey) (d : D) : List (NestedKey × D) := stF kvs k (fun _ => d) d
section
variable {X : Cx} {C : Cxt} {W : XW} {k : Nat}
mutual
theorem nested_is {pins : List (Addr × Obj)} {σ : St} {H : Hp} {s : Shared} {W : AP} (I : Inv X pins σ H s) : ∀ {v : V} {d : D} {k : NestedKey} {u : Value}, Rp X.K W H v d → keyOf d = some k → RelV v u → NestedIs s.heap k u
  | _, _, k, u, .non, e, ru => by
    simp only [keyOf, Option.some.injEq] at e
    subst e
    obtain rfl : u = .none := ru
    exact .none
  | _, _, k, u, .bl b, e, ru => by
    simp only [keyOf, Option.some.injEq] at e
    subst e
    obtain rfl : u = .bool b := ru
    exact .bool rfl
  | _, _, k, u, .int i, e, ru => by
    simp only [keyOf, Option.some.injEq] at e
    subst e
    obtain ⟨t, rfl⟩ := ru
    exact .int _ _
  | _, _, k, u, .str x _, e, ru => by
    simp only [keyOf, Option.some.injEq] at e
    subst e
    obtain ⟨t, rfl⟩ := ru
    exact .text _ _
  | _, _, k, u, .lst _ _ _, e, ru => by simp [keyOf] at e
  | _, _, k, u, .tup (a := a) (ds := ds) h r, e, ru => by
    obtain rfl : u = .ref a := ru
    simp only [keyOf] at e
    obtain ⟨ks, e1, e2⟩ := Option.map_eq_some_iff.mp e
    subst e2
    obtain ⟨its, rv, ⟨o, h1, h2, n, h3⟩, hz⟩ := I.tuple h.sq
    exact .tup h1 h2 h3 (by simpa using nested_all I r e1 rv)
theorem nested_all {pins : List (Addr × Obj)} {σ : St} {H : Hp} {s : Shared} {W : AP} (I : Inv X pins σ H s) : ∀ {vs : List V} {ds : List D} {ks : List NestedKey} {us : List Value}, Rps X.K W H vs ds → keysOf ds = some ks → Vals vs us → NestedAll s.heap ks us
  | _, _, ks, us, .nil, e, ru => by
    simp only [keysOf, Option.some.injEq] at e
    subst e
    cases ru
    exact .nil
  | _, _, ks, us, .cons a b, e, ru => by
    cases ru with
    | cons r rr =>
      simp only [keysOf] at e
      split at e
      · rename_i k ks' e1 e2
        cases e
        exact .cons (nested_is I a e1 r) (nested_all I b e2 rr)
      · cases e
end
/-- an entry in the heap's dict and its datum -/
def EnR (x : NestedKey × Addr × Value) (y : NestedKey × D) : Prop := x.1 = y.1 ∧ ∃ v, RelV v x.2.2 ∧ RpV v y.2
theorem dic_of {pins : List (Addr × Obj)} {σ : St} {H : Hp} {s : Shared} {W : AP} {p : Addr} {kvs : List (NestedKey × D)} (I : Inv X pins σ H s) (h : DicAt X.prog X.w X.K W H p kvs) :
    ∃ ys, s.heap.DictOfH (nestedKind X.prog X.w) p ys ∧ Paired EnR ys kvs ∧ (p == sysModules) = false ∧ kvs.length ≤ 1000000 := by
  obtain ⟨xs, h1, h2, h3, h4, h5⟩ := h
  obtain ⟨⟨o, es, ep, ys, e1, e2, e3, e4, e5⟩, _⟩ := I.hok p _ h1
  have hp : ∀ {xs : List (NestedKey × Addr × V)} {ys : List (NestedKey × Addr × Value)} {kvs : List (NestedKey × D)}, Paired (fun (x : NestedKey × Addr × V) (y : NestedKey × Addr × Value) => x.1 = y.1 ∧ x.2.1 = y.2.1 ∧ RelV x.2.2 y.2.2) xs ys →
      Paired (fun (x : NestedKey × Addr × V) (y : NestedKey × D) => x.1 = y.1 ∧ RpV x.2.2 y.2 ∧ x.1.depth ≤ 8 ∧ ∃ d, Rp X.K W H (.ref x.2.1) d ∧ keyOf d = some x.1) xs kvs →
      Paired EnR ys kvs ∧ ∀ y ∈ ys, (nestedKind X.prog X.w).is s.heap y.1 y.2.1 := by
    intro xs ys kvs p
    induction p generalizing kvs with
    | nil => intro q; cases q; exact ⟨.nil, fun y hy => nomatch hy⟩
    | @cons x y xs ys r t ih =>
      intro q
      cases q with
      | cons q qt =>
        obtain ⟨i1, i2⟩ := ih qt
        obtain ⟨f1, f2, f3, d, f4, f5⟩ := q
        obtain ⟨g1, g2, g3⟩ := r
        refine ⟨.cons ⟨by rw [← g1]; exact f1, _, g3, f2⟩ i1, fun z hz => ?_⟩
        rcases List.mem_cons.mp hz with rfl | hz
        · exact ⟨nested_is I (u := .ref z.2.1) f4 (by rw [← g1]; exact f5) (by rw [g2]; rfl), by rw [← g1]; exact f3⟩
        · exact i2 z hz
  obtain ⟨q1, q2⟩ := hp e5 h5
  refine ⟨ys, ⟨o, es, ep, e1, e2, e3, e4, q2, ?_⟩, q1, h2, h3⟩
  have : ys.map (·.1) = kvs.map (·.1) := by
    clear q2 e4 e5 h5 h4 h3
    induction q1 with
    | nil => rfl
    | cons r t ih => rw [List.map_cons, List.map_cons, ih, r.1]
  rw [this]
  exact h4
theorem atKey_of {ys : List (NestedKey × Addr × Value)} {kvs : List (NestedKey × D)} (p : Paired EnR ys kvs) (k : NestedKey) :
    (atKey ys k = none ∧ dGet kvs k = none) ∨ ∃ b u v d, atKey ys k = some (b, u) ∧ dGet kvs k = some d ∧ RelV v u ∧ RpV v d := by
  rcases find_rel (F := EnR) (fun a b h => h.1) k p with ⟨e1, e2⟩ | ⟨a, b, e1, e2, r, e⟩
  · left
    refine ⟨?_, by unfold dGet; rw [e2]; rfl⟩
    show (fndK ys k).map (·.2) = none
    rw [e1]; rfl
  · right
    obtain ⟨_, v, r1, r2⟩ := r
    refine ⟨a.2.1, a.2.2, v, b.2, ?_, by unfold dGet; rw [e2]; rfl, r1, r2⟩
    show (fndK ys k).map (·.2) = _
    rw [e1]; rfl
theorem storedH_st {ys : List (NestedKey × Addr × Value)} {k : NestedKey} {b : Addr} {u : Value} : storedH ys k b u = stF ys k (fun x => (x.1, u)) (b, u) := by
  unfold storedH stF
  have : (atKey ys k).isSome = (fndK ys k).isSome := by
    show ((fndK ys k).map (·.2)).isSome = _
    cases fndK ys k <;> rfl
  rw [this]
  rfl
/-- a key: a tuple of data, not too deep -/
def keyT (d : D) : Option NestedKey := match d with
  | .tuple ds => match keysOf ds with
    | some ks => if (NestedKey.tup ks).depth ≤ 8 then some (.tup ks) else none
    | none => none
  | _ => none
theorem keyT_of {d : D} {k : NestedKey} (h : keyT d = some k) : keyOf d = some k ∧ k.depth ≤ 8 ∧ ∃ ds, d = .tuple ds := by
  cases d <;> simp only [keyT, reduceCtorEq] at h
  split at h
  · rename_i ks e
    split at h
    · rename_i hd
      cases h
      exact ⟨by simp only [keyOf, e]; rfl, hd, _, rfl⟩
    · cases h
  · cases h
theorem is_key {pins : List (Addr × Obj)} {σ : St} {H : Hp} {s : Shared} {W : AP} (I : Inv X pins σ H s) {v : V} {d : D} {k : NestedKey} {u : Value} (r : Rp X.K W H v d) (h : keyT d = some k) (ru : RelV v u) :
    ∃ b, v = .ref b ∧ u = .ref b ∧ (nestedKind X.prog X.w).is s.heap k b := by
  obtain ⟨h1, h2, ds, rfl⟩ := keyT_of h
  obtain ⟨b, xs, rfl, _, _⟩ := r.inv_tup
  obtain rfl : u = .ref b := ru
  exact ⟨b, rfl, rfl, nested_is I r h1 rfl, h2⟩
def rDicGet (X : Cx) : R2 := fun x y H Q => ∃ p W kvs dy k d, x = .ref p ∧ DicAt X.prog X.w X.K W H p kvs ∧ Rp X.K W H y dy ∧ keyT dy = some k ∧ dGet kvs k = some d ∧ ∀ v, RpV v d → Q v H
theorem ix_dic (hu : X.A.units + 64 < cLine) : IxR X (rDicGet X) := by
  intro value slice pins s σ H x y v u Q I rx ry h hs
  obtain ⟨p, W, kvs, dy, k, d, rfl, hd, rk, ek, eg, q⟩ := h
  obtain rfl : v = .ref p := rx
  obtain ⟨b, rfl, rfl, hk⟩ := is_key I rk ek ry
  obtain ⟨ys, dd, pr, hne, hl⟩ := dic_of I hd
  unfold subscriptTail
  refine wpAny_bind ?_
  rw [getitemInPython_of_ne dd.typeIs.not_modules]
  refine wpAny_bind (wpAny_specialOf dd.typeIs PySem.F.slot_dict_getitem.lookup ?_)
  have fin : wpAny (model X.prog X.w) X.A (subscripted slice false (.ref p) (.ref b)) (fun r s₃ => wpAny (model X.prog X.w) X.A (letTemporaryGo value (.ref p) r >>= fun _ => pure r) (EP X pins σ Q) X.xe s₃) X.xe s := by
    rw [hs]
    refine wpAny_operating (wpAny_mono (?_ : wpAny (model X.prog X.w) X.A (getItem (.ref p) (.ref b)) (EP X pins σ Q) X.xe s) (fun r s₃ h₃ => wpAny_bind (wpAny_letTemporaryGo (wpAny_pure h₃))) fun _ _ x => x)
    rcases atKey_of pr k with ⟨_, e2⟩ | ⟨c, u, v, d', e1, e2, r1, r2⟩
    · rw [eg] at e2; cases e2
    · rw [eg] at e2; cases e2
      exact wpAny_getItem_heap (show X.A.in1.units + 8 < cLine from by show X.A.units + 1 + 8 < cLine; omega) hk dd e1 ⟨v, H, I.tok _, r1, q v r2⟩
  first
    | exact wpAny_pure (wpAny_bind fin)
    | exact wpAny_bind (wpAny_pure (wpAny_bind fin))
    | exact wpAny_bind fin
def rDicIn (X : Cx) (neg : Bool) : R2 := fun y x H Q => ∃ p W kvs dy k, x = .ref p ∧ DicAt X.prog X.w X.K W H p kvs ∧ Rp X.K W H y dy ∧ keyT dy = some k ∧ Q (.bl (xor neg (dGet kvs k).isSome)) H
theorem op_dicIn (hu : X.A.units + 64 < cLine) : OpR X (compareOp .In) (rDicIn X false) := by
  intro pins s σ H y x v u Q I ry rx h
  obtain ⟨p, W, kvs, dy, k, rfl, hd, rk, ek, q⟩ := h
  obtain rfl : u = .ref p := rx
  obtain ⟨b, rfl, rfl, hk⟩ := is_key I rk ek ry
  obtain ⟨ys, dd, pr, hne, hl⟩ := dic_of I hd
  refine wpAny_in_heap (show X.A.in1.units + 8 < cLine from by show X.A.units + 1 + 8 < cLine; omega) hk hne dd ⟨.bl (atKey ys k).isSome, H, I.tok _, rfl, ?_⟩
  have : (atKey ys k).isSome = xor false (dGet kvs k).isSome := by
    rcases atKey_of pr k with ⟨e1, e2⟩ | ⟨c, u, v, d', e1, e2, r1, r2⟩ <;> rw [e1, e2] <;> rfl
  rw [this]; exact q
theorem op_dicNotIn (hu : X.A.units + 64 < cLine) : OpR X (compareOp .NotIn) (rDicIn X true) := by
  intro pins s σ H y x v u Q I ry rx h
  obtain ⟨p, W, kvs, dy, k, rfl, hd, rk, ek, q⟩ := h
  obtain rfl : u = .ref p := rx
  obtain ⟨b, rfl, rfl, hk⟩ := is_key I rk ek ry
  obtain ⟨ys, dd, pr, hne, hl⟩ := dic_of I hd
  show wpAny _ _ (do return Value.bool (!(← contains (.ref p) (.ref b))) : Sem Value) _ _ s
  refine wpAny_bind (wpAny_contains_heap (show X.A.in1.units + 8 < cLine from by show X.A.units + 1 + 8 < cLine; omega) hk hne dd (wpAny_pure ⟨.bl (!(atKey ys k).isSome), H, I.tok _, rfl, ?_⟩))
  have : (!(atKey ys k).isSome) = xor true (dGet kvs k).isSome := by
    rcases atKey_of pr k with ⟨e1, e2⟩ | ⟨c, u, v, d', e1, e2, r1, r2⟩ <;> rw [e1, e2] <;> rfl
  rw [this]; exact q
/-- d[k] = v -/
def rDicSet (X : Cx) : TSet := fun o y v H Q => ∃ p W kvs dy k d, o = .ref p ∧ DicAt X.prog X.w X.K W H p kvs ∧ Rp X.K W H y dy ∧ keyT dy = some k ∧ RpV v d ∧ kvs.length < 1000000 ∧
  ∀ o', (∀ W' H', Kp W H W' H' → H' p = some o' → DicAt X.prog X.w X.K W' H' p (dPut kvs k d)) → (∀ ps, o' ≠ .tbl ps) → Q (upd H p o')
theorem RpV.inj {v v' : V} {d : D} {u : Value} (r : RpV v d) (h : RelV v u) : ∀ {w : V}, RelV w u → RpV w d → v = w := by
  intro w h' r'
  cases r <;> cases r' <;> rfl
theorem set_dic (hu : X.A.units + 64 < cLine) : PSet X (rDicSet X) := by
  intro pins s σ H o i v ov iv u Q I ro ri rv h
  obtain ⟨p, W, kvs, dy, k, d, rfl, hd, rk, ek, rd, hlt, q⟩ := h
  obtain rfl : ov = .ref p := ro
  obtain ⟨b, rfl, rfl, hk⟩ := is_key I rk ek ri
  obtain ⟨xs, h1, h2, h3, h4, h5⟩ := id hd
  obtain ⟨⟨ob, es, ep, ys, e1, e2, e3, e4, e5⟩, _⟩ := I.hok p _ h1
  obtain ⟨ys', dd, pr, hne, hl⟩ := dic_of I hd
  -- the entries in the heap are those of the tracked dict
  have hys : ys' = ys := by
    obtain ⟨ob', es', ep', f1, f2, f3, f4, f5, f6⟩ := dd
    rw [e1] at f1; cases f1
    rw [e3] at f3; cases f3
    rw [e4] at f4
    -- keys: the same addresses, so the same keys
    have hx : ∀ (l m : List (NestedKey × Addr × Value)), l.map (entryOfKey (nestedKind X.prog X.w)) = m.map (entryOfKey (nestedKind X.prog X.w)) → (∀ x ∈ m, (nestedKind X.prog X.w).is s.heap x.1 x.2.1) → (∀ x ∈ l, (nestedKind X.prog X.w).is s.heap x.1 x.2.1) → l = m := by
      intro l
      induction l with
      | nil => intro m e _ _; cases m with | nil => rfl | cons => simp at e
      | cons a l ih =>
        intro m e q1 q2
        cases m with
        | nil => simp at e
        | cons c m =>
          simp only [List.map_cons, List.cons.injEq] at e
          have e0 := e.1
          unfold entryOfKey at e0
          simp only [DictEntry.mk.injEq, Value.ref.injEq] at e0
          have ea : a.2.1 = c.2.1 := e0.2.1
          have ev : a.2.2 = c.2.2 := e0.2.2
          have i1 := q2 a List.mem_cons_self
          have i2 := q1 c List.mem_cons_self
          rw [ea] at i1
          have ek := (nestedKind X.prog X.w).inj i1 i2
          have : a = c := by
            obtain ⟨a1, a2, a3⟩ := a
            obtain ⟨c1, c2, c3⟩ := c
            simp only at ea ev ek
            rw [ea, ev, ek]
          rw [this, ih m e.2 (fun x hx => q1 x (List.mem_cons_of_mem _ hx)) (fun x hx => q2 x (List.mem_cons_of_mem _ hx))]
    refine (hx ys ys' f4 f5 ?_).symm
    clear f4 f5 f6 pr
    intro y hy
    obtain ⟨j, hj⟩ := List.mem_iff_getElem?.mp hy
    have : ∀ {xs : List (NestedKey × Addr × V)} {ys : List (NestedKey × Addr × Value)} {kvs : List (NestedKey × D)}, Paired (fun (x : NestedKey × Addr × V) (y : NestedKey × Addr × Value) => x.1 = y.1 ∧ x.2.1 = y.2.1 ∧ RelV x.2.2 y.2.2) xs ys →
        Paired (fun (x : NestedKey × Addr × V) (y : NestedKey × D) => x.1 = y.1 ∧ RpV x.2.2 y.2 ∧ x.1.depth ≤ 8 ∧ ∃ d, Rp X.K W H (.ref x.2.1) d ∧ keyOf d = some x.1) xs kvs → ∀ y ∈ ys, (nestedKind X.prog X.w).is s.heap y.1 y.2.1 := by
      intro xs ys kvs p
      induction p generalizing kvs with
      | nil => intro q y hy; exact nomatch hy
      | @cons x y xs ys r t ih =>
        intro q
        cases q with
        | cons q qt =>
          obtain ⟨f1, f2, f3, d, f4, f5⟩ := q
          obtain ⟨g1, g2, g3⟩ := r
          intro z hz
          rcases List.mem_cons.mp hz with rfl | hz
          · exact ⟨nested_is I (u := .ref z.2.1) f4 (by rw [← g1]; exact f5) (by rw [g2]; rfl), by rw [← g1]; exact f3⟩
          · exact ih qt z hz
    exact this e5 h5 y hy
  subst hys
  have hz : ys'.length ≤ sizeLine := by rw [Paired.length pr, sizeLine_eq]; omega
  refine wpAny_setItem_heap (hsz := hz) (show X.A.in1.units + 8 < cLine from by show X.A.units + 1 + 8 < cLine; omega) hk dd fun h' dd' sb => ?_
  rw [storedH_st] at dd'
  obtain ⟨o2, es2, ep2, f1, f2, f3, f4, f5, f6⟩ := dd'
  obtain ⟨kk, kd, dsk, ekk⟩ := keyT_of ek
  let xs' := stF xs k (fun x => (x.1, v)) (b, v)
  have pxy : Paired (fun (x : NestedKey × Addr × V) (y : NestedKey × Addr × Value) => x.1 = y.1 ∧ x.2.1 = y.2.1 ∧ RelV x.2.2 y.2.2) xs' (stF ys' k (fun x => (x.1, u)) (b, u)) :=
    st_rel (fun a b h => h.1) e5 (fun a c hr _ => ⟨hr.1, hr.2.1, rv⟩) ⟨rfl, rfl, rv⟩
  refine ⟨upd H p (dicO X.prog X.w p xs'), d_write I (by rw [h1]; exact True.intro) sb ⟨o2, f1⟩ ⟨⟨o2, es2, ep2, _, f1, f2, f3, f4, pxy⟩, ⟨o2, f1⟩, ?_⟩, q _ ?_ (fun ps z => nomatch z)⟩
  · rintro g1 g2 ⟨o3, es3, ep3, ys3, l1, l2, l3, l4, l5⟩ kk
    exact ⟨o3, es3, ep3, ys3, kk o3 l1, l2, l3, l4, l5⟩
  · intro W' H' kp hp
    refine ⟨xs', hp, h2, ?_, ?_, ?_⟩
    · have := st_len (l := kvs) (k := k) (f := fun _ => d) (n := d)
      show (stF kvs k (fun _ => d) d).length ≤ _
      omega
    · exact st_keys h4
    · refine st_rel (fun a b h => h.1) (Paired.mapP h5 fun x y ⟨r1, r2, r3, d1, r4, r5⟩ => ⟨r1, r2, r3, d1, r4.kp kp, r5⟩) (fun a c hr _ => ⟨hr.1, rd, hr.2.2⟩) ⟨rfl, rd, kd, dy, rk.kp kp, kk⟩
end
end Dm
namespace Dm
open PySem PySem.Spec PyProof.Rows L2 LamX
section
variable {X : Cx} {C : Cxt} {W : XW} {k : Nat}
/-- a visible name -/
structure VarOk (X : Cx) (i : Nat) (x : Str) : Prop where
  at_ : X.N[i]? = some x
  vis : Vis X.env.scope x
  nd : (x == ("__debug__" : Str)) = false
  nc : (x == ("__classdict__" : Str)) = false
def isUn : Sl → Bool
  | .un => true
  | _ => false
theorem isUn_of {s : Sl} (h : isUn s = false) : s ≠ .un := fun z => by subst z; cases h
/-- the slot i holds something -/
def held (i : Nat) (ρ : Rho) : Bool := match ρ[i]? with
  | some s => !isUn s
  | none => false
theorem held_val {i : Nat} {pa U} {σ : St} {H : Hp} {ρ : Rho} (r : RX X C pa U σ H ρ) (h : held i ρ = true) : ∃ v, σ[i]? = some (some v) := by
  unfold held at h
  split at h
  · rename_i s e
    exact slot_val r e (isUn_of (by simpa using h))
  · cases h
/-! ### name[e] -/
def subS (s : Sl) (y : D) : Option D := match s with
  | .val d => ixD d y
  | .own _ xs => ixD (.list xs) y
  | .scr ns => ixD (.list (ns.map .int)) y
  | .dic _ kvs => match keyT y with
    | some k => dGet kvs k
    | none => none
  | _ => none
def ixvR (i : Nat) (n : Rho → Res D) : Rho → Res D := fun ρ => if held i ρ then (n ρ).bind fun y ρ1 => match ρ1[i]? with
  | some s => lift (subS s y) ρ1
  | none => .bad else .bad
def rSub (X : Cx) : R2 := fun x y H Q => rD2 X.K ixD x y H Q ∨ rIxL X.K x y H Q ∨ rDicGet X x y H Q
theorem ix_sub (hu : X.A.units + 64 < cLine) : IxR X (rSub X) := by
  intro value slice pins s σ H x y v u Q I rx ry h hs
  rcases h with h | h | h
  · exact dix value slice pins s σ H x y v u Q I rx ry h hs
  · exact ix_list value slice pins s σ H x y v u Q I rx ry h hs
  · exact ix_dic hu value slice pins s σ H x y v u Q I rx ry h hs
theorem rpv_rp {K : PySem.W.Frag} {W : AP} {H : Hp} {v : V} {d : D} (r : RpV v d) : Rp K W H v d := by
  cases r with
  | int i => exact .int i
  | bl b => exact .bl b
theorem dic_rpv {P : Program} {w : World} {K : PySem.W.Frag} {W : AP} {H : Hp} {p : Addr} {kvs : List (NestedKey × D)} {k : NestedKey} {d : D} (h : DicAt P w K W H p kvs) (e : dGet kvs k = some d) : ∀ v, RpV v d → Rp K W H v d := fun v r => rpv_rp r
theorem eok_ixs {i : Nat} {x : Str} {b : Expr} {n : Rho → Res D} {p pos : Pos} (xo : XOk C k X W) (hv : VarOk X i x) (hb : EOk C X W b n) (hp : plainIx b = true) : EOk C X W (.Subscript (.Name x p) b pos) (ixvR i n) := by
  intro pa U σ H ρ Q r h
  have hu : X.A.units + 64 < cLine := by have := xo.room.un; omega
  refine sem_of (pe_ix (ix_sub hu) (pe_var hv.at_ hv.vis hv.nd hv.nc) pe_sem (plainIx_of hp)) ?_
  unfold ixvR at h
  by_cases hh : held i ρ = true
  · rw [if_pos hh] at h
    obtain ⟨v, ev⟩ := held_val r hh
    refine ⟨v, ev, ?_⟩
    refine hb pa U σ H ρ _ r (h.bind fun y ρ1 H1 q1 h1 vy ry => ?_)
    cases es : ρ1[i]? with
    | none => rw [es] at h1; exact h1.elim
    | some s =>
      rw [es] at h1
      obtain ⟨d, e, hd⟩ := Post.lift q1.r h1
      have sl := q1.r.slot i s es
      rw [ev] at sl
      cases s with
      | un => cases e
      | ins f fs => cases e
      | val d0 =>
        obtain ⟨v', e1, rv⟩ := sl
        cases e1
        exact .inl ⟨Wd U σ ρ1, d0, y, d, rv, ry, fun a z => q1.r.wdom z, e, fun v H' ex rv => hd H' ex v rv⟩
      | own f xs =>
        obtain ⟨p', vs, e1, _, e2, rs⟩ := sl
        cases e1
        cases y <;> simp only [subS, ixD, reduceCtorEq] at e
        rename_i j
        obtain ⟨w', e3, r3⟩ := rs.atI e
        exact .inr (.inl ⟨p', vs, j, w', rfl, ry.inv_int, SqL.of e2, e3, hd H1 (Ex.rfl' _) _ r3⟩)
      | scr ns =>
        obtain ⟨p', e1, e2⟩ := sl
        cases e1
        cases y <;> simp only [subS, ixD, reduceCtorEq] at e
        rename_i j
        obtain ⟨w', e3, r3⟩ := (Rps.ofInts (K := X.K) (W := Wd U σ ρ1) (H := H1) ns).atI e
        exact .inr (.inl ⟨p', _, j, w', rfl, ry.inv_int, e2.sq, e3, hd H1 (Ex.rfl' _) _ r3⟩)
      | dic f kvs =>
        obtain ⟨p', e1, _, e2⟩ := sl
        cases e1
        simp only [subS] at e
        split at e
        · rename_i kk ek
          exact .inr (.inr ⟨p', Wd U σ ρ1, kvs, y, kk, d, rfl, e2, ry, ek, e, fun v rv => hd H1 (Ex.rfl' _) _ (rpv_rp rv)⟩)
        · cases e
  · rw [if_neg hh] at h; exact h.elim
/-! ### e in name, e not in name -/
def inSR (neg : Bool) (i : Nat) (m : Rho → Res D) : Rho → Res D := fun ρ => (m ρ).bind fun y ρ1 => match ρ1[i]? with
  | some (.dic _ kvs) => match keyT y with
    | some k => .ok (.bool (xor neg (dGet kvs k).isSome)) ρ1
    | none => .bad
  | _ => (rdv i ρ1).bind fun d ρ2 => lift ((if neg then ninD else inD) y d) ρ2
def rIn (X : Cx) (neg : Bool) : R2 := fun x y H Q => rD2 X.K (if neg then ninD else inD) x y H Q ∨ rDicIn X neg x y H Q
theorem op_in2 (hu : X.A.units + 64 < cLine) (neg : Bool) : OpR X (compareOp (if neg then .NotIn else .In)) (rIn X neg) := by
  intro pins s σ H x y v u Q I rx ry h
  cases neg with
  | false =>
    rcases h with h | h
    · exact dop_in hu pins s σ H x y v u Q I rx ry h
    · exact op_dicIn hu pins s σ H x y v u Q I rx ry h
  | true =>
    rcases h with h | h
    · exact dop_notin hu pins s σ H x y v u Q I rx ry h
    · exact op_dicNotIn hu pins s σ H x y v u Q I rx ry h
theorem ins_read {neg : Bool} {i : Nat} {a : Expr} {m : Rho → Res D} {pa U} {σ : St} {H : Hp} {ρ : Rho} {Y : D → Rho → Hp → Prop} {Q : VK} (ha : EOk C X W a m) (r : RX X C pa U σ H ρ) (h : Post X C W pa U σ H ρ Y (inSR neg i m ρ))
    (k : ∀ d ρ2 H2 v, SqX X C pa U σ H ρ σ H2 ρ2 → Rp X.K (Wd U σ ρ2) H2 v d → Y d ρ2 H2 → Q v H2) : tOp (rIn X neg) (tSem X a) (tVar i) σ H Q := by
  refine one_val ha r h fun y ρ1 H1 vy q1 ry h1 => ?_
  cases es : ρ1[i]? with
  | none => rw [es] at h1; simp only [rdv, es] at h1; exact h1.elim
  | some s =>
    have sl := q1.r.slot i s es
    have viaV : ∀ (d : D) (ρ2 : Rho) (v : V), σ[i]? = some (some v) → SqX X C pa U σ H1 ρ1 σ H1 ρ2 → Rp X.K (Wd U σ ρ2) H1 v d → Post X C W pa U σ H1 ρ2 Y (lift ((if neg then ninD else inD) y d) ρ2) → tVar i σ H1 fun z H2 => rIn X neg vy z H2 Q := by
      intro d ρ2 v ev q2 rd h2
      obtain ⟨dd, e, hd⟩ := Post.lift q2.r h2
      exact ⟨v, ev, .inl ⟨Wd U σ ρ2, y, d, dd, ry.kp q2.kp, rd, fun a z => q2.r.wdom z, e, fun v' H' ex rv => k dd ρ2 H' v' ((q1.trans q2).trans (Sq.ex q2.r ex)) rv (hd H' ex)⟩⟩
    cases s with
    | un => rw [es] at h1; simp only [rdv, es] at h1; exact h1.elim
    | ins f fs => rw [es] at h1; simp only [rdv, es] at h1; exact h1.elim
    | scr ns => rw [es] at h1; simp only [rdv, es] at h1; exact h1.elim
    | val d =>
      obtain ⟨v, ev, rd⟩ := sl
      rw [es] at h1
      simp only [rdv, es, Res.bind_ok] at h1
      exact viaV d ρ1 v ev (Sq.refl q1.r) rd h1
    | own f xs =>
      rw [es] at h1
      cases f with
      | true => simp only [rdv, es] at h1; exact h1.elim
      | false =>
        simp only [rdv, es, Res.bind_ok] at h1
        obtain ⟨sq, v, e1, rv⟩ := freeze q1.r es
        exact viaV _ _ v e1 sq rv (h1.shift sq)
    | dic f kvs =>
      obtain ⟨p, ep, _, hd⟩ := sl
      rw [es] at h1
      dsimp only at h1
      split at h1
      · rename_i kk ek
        exact ⟨.ref p, ep, .inr ⟨p, Wd U σ ρ1, kvs, y, kk, rfl, hd, ry, ek, k _ ρ1 H1 _ q1 (.bl _) (h1 H1 (Sq.refl q1.r))⟩⟩
      · exact h1.elim
theorem eok_inS {neg : Bool} {i : Nat} {x : Str} {a : Expr} {m : Rho → Res D} {p pos : Pos} (xo : XOk C k X W) (hv : VarOk X i x) (ha : EOk C X W a m) : EOk C X W (.Compare a [if neg then .NotIn else .In] [.Name x p] pos) (inSR neg i m) := by
  intro pa U σ H ρ Q r h
  have hu : X.A.units + 64 < cLine := by have := xo.room.un; omega
  refine sem_of (pe_cmpR (op_in2 hu neg) pe_sem (pe_var hv.at_ hv.vis hv.nd hv.nc) (by cases neg <;> rfl)) ?_
  exact ins_read ha r h fun d ρ2 H2 v q rv y => y v rv
theorem tok_inS {neg : Bool} {i : Nat} {x : Str} {a : Expr} {m : Rho → Res D} {p pos : Pos} (xo : XOk C k X W) (hv : VarOk X i x) (ha : EOk C X W a m) : TOk C X W (.Compare a [if neg then .NotIn else .In] [.Name x p] pos) (inSR neg i m) := by
  intro pa U σ H ρ Q r h
  have hu : X.A.units + 64 < cLine := by have := xo.room.un; omega
  refine semT_of (pt_cmpR (op_in2 hu neg) pe_sem (pe_var hv.at_ hv.vis hv.nd hv.nc) (by cases neg <;> rfl)) ?_
  refine ins_read ha r h fun d ρ2 H2 v q rv y => ?_
  obtain ⟨b, eb, hq⟩ := y
  subst eb
  exact ⟨b, rv.inv_bl, hq⟩
/-! ### len(name), the name a list of its own or the script -/
def lenS : Sl → Option D
  | .own _ xs => some (.int xs.length)
  | .scr ns => some (.int ns.length)
  | .val d => Bt.len.den [d]
  | _ => none
def lenvR (i : Nat) : Rho → Res D := fun ρ => match ρ[i]? with
  | some s => lift (lenS s) ρ
  | none => .bad
theorem eok_lenv {i : Nat} {x : Str} {p p2 pos : Pos} (xo : XOk C k X W) (hv : VarOk X i x) (hg : Gl X "len") : EOk C X W (.Call (.Name "len" p) [.Name x p2] [] pos) (lenvR i) := by
  intro pa U σ H ρ Q r h
  have hu : X.A.units + 64 < cLine := by have := xo.room.un; omega
  have hx : X.mg "len" = none := xo.bt .len
  have pv : PA X [.Name x p2] (tCons (tVar i) tNil) := pa_cons (pe_var hv.at_ hv.vis hv.nd hv.nc) pa_nil rfl
  unfold lenvR at h
  cases es : ρ[i]? with
  | none => rw [es] at h; exact h.elim
  | some s =>
    rw [es] at h
    obtain ⟨d, e, hd⟩ := Post.lift r h
    have sl := r.slot i s es
    have viaL : ∀ p' (vs : List V), σ[i]? = some (some (.ref p')) → SqL X.K H p' vs → d = .int vs.length → tSem X (.Call (.Name "len" p) [.Name x p2] [] pos) σ H Q := by
      intro p' vs e1 hq ed
      refine sem_of (pe_callB call_len hg hx boot_len pv) ?_
      refine ⟨_, e1, ?_⟩
      refine ⟨.ref p', vs.length, rfl, .inl ⟨_, hq, rfl⟩, ?_⟩
      subst ed
      exact hd H (Ex.rfl' _) _ (.int _)
    cases s with
    | un => cases e
    | dic f kvs => cases e
    | ins f fs => cases e
    | own f xs =>
      obtain ⟨p', vs, e1, _, e2, rs⟩ := sl
      simp only [lenS, Option.some.injEq] at e
      exact viaL p' vs e1 (SqL.of e2) (by rw [← e, rs.length])
    | scr ns =>
      obtain ⟨p', e1, e2⟩ := sl
      simp only [lenS, Option.some.injEq] at e
      exact viaL p' _ e1 e2.sq (by rw [← e, List.length_map])
    | val d0 =>
      obtain ⟨v, e1, rv⟩ := sl
      have hc := Bt.len.ok (X := X) xo.calm hu
      refine sem_of (pe_callB hc hg hx boot_len pv) ?_
      exact ⟨v, e1, Wd U σ ρ, [d0], d, .cons rv .nil, fun a z => r.wdom z, e, fun v H' ex rv => hd H' ex v rv⟩
/-! ### name == [] -/
def nilR (i : Nat) : Rho → Res D := fun ρ => match ρ[i]? with
  | some (.scr ns) => .ok (.bool ns.isEmpty) ρ
  | _ => .bad
theorem dp_ints {K : PySem.W.Frag} {H : Hp} : ∀ ns : List Int, DpAll K H (ns.map V.int) (ns.map PyData.int)
  | [] => .nil
  | n :: ns => .cons (.int n) (dp_ints ns)
theorem can_ints : ∀ ns : List Int, PyData.canLayAll0 (ns.map PyData.int) = true
  | [] => rfl
  | n :: ns => by
    show (PyData.canLay0 (.int n) && PyData.canLayAll0 (ns.map PyData.int)) = true
    rw [can_ints ns]; rfl
def rNil (K : PySem.W.Frag) : R2 := fun x y H Q => ∃ (a b : Addr) (ns : List Int), x = .ref a ∧ y = .ref b ∧ SqL K H a (ns.map V.int) ∧ H b = some (.lst []) ∧ Q (.bl ns.isEmpty) H
theorem op_nil (hu : X.A.units + 64 < cLine) : OpR X (compareOp .Eq) (rNil X.K) := by
  rintro pins s σ H x y v u Q I ru rv ⟨a, b, ns, rfl, rfl, ha, hb, q⟩
  obtain ⟨as, r1⟩ := Dp.reads I (.list (ns.map .int)) (.ref a) v (.lst ha (dp_ints ns)) ru
  obtain ⟨bs, r2⟩ := Dp.reads I (.list []) (.ref b) u (.lst (SqL.of hb) .nil) rv
  refine SeqAt.compareEq_reads r1 r2 (can_ints ns) rfl (by
    have : PyData.depth (.list []) = 1 := by simp [PyData.depth, PyData.depthAll]
    omega) ⟨.bl _, H, I, rfl, ?_⟩
  have : PyData.eqv (.list (ns.map .int)) (.list []) = ns.isEmpty := by
    cases ns <;> simp [PyData.eqv, PyData.eqvAll]
  rw [this]
  exact q
theorem nil_read {i : Nat} {pa U} {σ : St} {H : Hp} {ρ : Rho} {Y : D → Rho → Hp → Prop} {Q : VK} (r : RX X C pa U σ H ρ) (h : Post X C W pa U σ H ρ Y (nilR i ρ)) (k : ∀ b H2, Y (.bool b) ρ H2 → Q (.bl b) H2) : tOp (rNil X.K) (tVar i) (tLst tNil) σ H Q := by
  unfold nilR at h
  cases es : ρ[i]? with
  | none => rw [es] at h; exact h.elim
  | some s =>
    rw [es] at h
    cases s <;> try exact h.elim
    rename_i ns
    obtain ⟨a, e1, e2⟩ := r.slot i _ es
    refine ⟨.ref a, e1, ⟨by rw [sizeLine_eq]; show 0 ≤ _; omega, fun p hp => ?_⟩⟩
    have q := Sq.ex r (Ex.new (o := .lst []) hp)
    have e3 := e2.kp q.kp
    exact ⟨a, p, ns, rfl, rfl, e3.sq, upd_same, k _ _ (h _ q)⟩
theorem eok_nil {i : Nat} {x : Str} {p p2 pos : Pos} (xo : XOk C k X W) (hv : VarOk X i x) : EOk C X W (.Compare (.Name x p) [.Eq] [.List [] p2] pos) (nilR i) := by
  intro pa U σ H ρ Q r h
  have hu : X.A.units + 64 < cLine := by have := xo.room.un; omega
  refine sem_of (pe_cmpR (op_nil hu) (pe_var hv.at_ hv.vis hv.nd hv.nc) (pe_lst pa_nil) rfl) ?_
  exact nil_read r h fun b H2 y => y _ (.bl b)
theorem tok_nil {i : Nat} {x : Str} {p p2 pos : Pos} (xo : XOk C k X W) (hv : VarOk X i x) : TOk C X W (.Compare (.Name x p) [.Eq] [.List [] p2] pos) (nilR i) := by
  intro pa U σ H ρ Q r h
  have hu : X.A.units + 64 < cLine := by have := xo.room.un; omega
  refine semT_of (pt_cmpR (op_nil hu) (pe_var hv.at_ hv.vis hv.nd hv.nc) (pe_lst pa_nil) rfl) ?_
  refine nil_read r h fun b H2 y => ?_
  obtain ⟨b', e, q⟩ := y
  cases e
  exact ⟨_, rfl, q⟩
/-! ### a name of the module that holds data -/
def GlbOk (X : Cx) (x : Str) (d : D) : Prop := ∃ u v, X.mg x = some u ∧ RelV v u ∧ ∀ W H, Rp X.K W H v d
theorem eok_glb {x : Str} {d : D} {pos : Pos} (hg : Gl X x) (h : GlbOk X x d) (hd : (x == ("__debug__" : Str)) = false) : EOk C X W (.Name x pos) (fun ρ => .ok d ρ) := by
  intro pa U σ H ρ Q r q
  obtain ⟨u, v, h1, h2, h3⟩ := h
  exact sem_of (pe_glob hg h1 h2 hd) (q H (Sq.refl r) v (h3 _ _))
end
end Dm
namespace Dm
open PySem PySem.Spec PyProof.Rows L2 LamX
/-! ### statements -/
inductive SR where
  | nx (ρ : Rho)
  | rt (d : D) (ρ : Rho)
  | bk (ρ : Rho)
  | ex (c : Exn) (ρ : Rho)
  | bad
def SR.seq (r : SR) (f : Rho → SR) : SR := match r with
  | .nx ρ => f ρ
  | r => r
@[simp] theorem SR.seq_nx (ρ : Rho) (f : Rho → SR) : (SR.nx ρ).seq f = f ρ := rfl
@[simp] theorem SR.seq_rt (d : D) (ρ : Rho) (f : Rho → SR) : (SR.rt d ρ).seq f = .rt d ρ := rfl
@[simp] theorem SR.seq_bk (ρ : Rho) (f : Rho → SR) : (SR.bk ρ).seq f = .bk ρ := rfl
@[simp] theorem SR.seq_ex (c : Exn) (ρ : Rho) (f : Rho → SR) : (SR.ex c ρ).seq f = .ex c ρ := rfl
@[simp] theorem SR.seq_bad (f : Rho → SR) : (SR.bad).seq f = .bad := rfl
/-- a result, then a statement's -/
def Res.to {α : Type} (r : Res α) (f : α → Rho → SR) : SR := match r with
  | .ok a ρ => f a ρ
  | .exc c ρ => .ex c ρ
  | .bad => .bad
@[simp] theorem Res.to_ok {α : Type} (a : α) (ρ : Rho) (f : α → Rho → SR) : (Res.ok a ρ).to f = f a ρ := rfl
@[simp] theorem Res.to_exc {α : Type} (c : Exn) (ρ : Rho) (f : α → Rho → SR) : (Res.exc c ρ : Res α).to f = .ex c ρ := rfl
@[simp] theorem Res.to_bad {α : Type} (f : α → Rho → SR) : (Res.bad : Res α).to f = .bad := rfl
def sSem (X : Cx) (st : Stmt) : TS := fun D σ H => ∀ pins s, Inv X pins σ H s → wpAny (model X.prog X.w) X.A (exec st X.env) (SP X pins D) X.xe s
def ssSem (X : Cx) (st : List Stmt) : TS := fun D σ H => ∀ pins s, Inv X pins σ H s → wpAny (model X.prog X.w) X.A (execs st X.env) (SP X pins D) X.xe s
theorem ps_sem {X : Cx} {st : Stmt} : PS X st (sSem X st) := ⟨fun pins s σ H D I h => h pins s I⟩
theorem pss_sem {X : Cx} {st : List Stmt} : PSs X st (ssSem X st) := ⟨fun pins s σ H D I h => h pins s I⟩
theorem semS_of {X : Cx} {st : Stmt} {t : TS} (h : PS X st t) {D : Ends} {σ : St} {H : Hp} (q : t D σ H) : sSem X st D σ H := fun pins s I => h.run pins s σ H D I q
theorem semSs_of {X : Cx} {st : List Stmt} {t : TS} (h : PSs X st t) {D : Ends} {σ : St} {H : Hp} (q : t D σ H) : ssSem X st D σ H := fun pins s I => h.run pins s σ H D I q
def PostS (X : Cx) (C : Cxt) (W : XW) (pa : Nat → Addr) (U : AP) (D : Ends) (σ : St) (H : Hp) (ρ : Rho) : SR → Prop
  | .nx ρ' => ∀ σ' H', SqX X C pa U σ H ρ σ' H' ρ' → D.nx σ' H'
  | .rt d ρ' => ∀ σ' H' v, SqX X C pa U σ H ρ σ' H' ρ' → Rp X.K (Wd U σ' ρ') H' v d → D.rt v H'
  | .bk ρ' => ∀ σ' H', SqX X C pa U σ H ρ σ' H' ρ' → D.bk σ' H'
  | .ex c ρ' => ∀ σ' H', SqX X C pa U σ H ρ σ' H' ρ' → W c σ' H'
  | .bad => False
section
variable {X : Cx} {C : Cxt} {W : XW} {pa : Nat → Addr} {U : AP} {σ σ1 : St} {H H1 : Hp} {ρ ρ1 : Rho} {E : Ends}
theorem PostS.shift {r : SR} (h : PostS X C W pa U E σ H ρ r) (q : SqX X C pa U σ H ρ σ1 H1 ρ1) : PostS X C W pa U E σ1 H1 ρ1 r := by
  cases r with
  | nx ρ' => exact fun σ' H' z => h σ' H' (q.trans z)
  | rt d ρ' => exact fun σ' H' v z => h σ' H' v (q.trans z)
  | bk ρ' => exact fun σ' H' z => h σ' H' (q.trans z)
  | ex c ρ' => exact fun σ' H' z => h σ' H' (q.trans z)
  | bad => exact h
/-- an expression, then what is made of it -/
theorem PostS.to {α : Type} {r : Res α} {f : α → Rho → SR} {Z : α → Rho → Hp → Prop} (h : PostS X C W pa U E σ H ρ (r.to f)) (k : ∀ a ρ1 H1, SqX X C pa U σ H ρ σ H1 ρ1 → PostS X C W pa U E σ H1 ρ1 (f a ρ1) → Z a ρ1 H1) : Post X C W pa U σ H ρ Z r := by
  cases r with
  | ok a ρ' => exact fun H' z => k a ρ' H' z (PostS.shift (X := X) (C := C) h z)
  | exc c ρ' => exact fun H' z => h σ H' z
  | bad => exact h
end
def SOk (C : Cxt) (X : Cx) (W : XW) (st : Stmt) (m : Rho → SR) : Prop := ∀ pa U σ H ρ (E : Ends), RX X C pa U σ H ρ → PostS X C W pa U E σ H ρ (m ρ) → sSem X st E σ H
def SsOk (C : Cxt) (X : Cx) (W : XW) (st : List Stmt) (m : Rho → SR) : Prop := ∀ pa U σ H ρ (E : Ends), RX X C pa U σ H ρ → PostS X C W pa U E σ H ρ (m ρ) → ssSem X st E σ H
/-- the context of a def's body -/
structure XS (C : Cxt) (k : Nat) (X : Cx) (W : XW) : Prop where
  xo : XOk C k X W
  fn : ∀ x, X.fn x = true
  po : PassesOwn (model X.prog X.w) X.A X.env X.xe
  kd : X.env.scope.kind = .function
section
variable {X : Cx} {C : Cxt} {W : XW} {k : Nat}
theorem XS.bk (x : XS C k X W) : X.env.blockKind = .function := by unfold Env.blockKind; rw [x.kd]; rfl
/-- a name that may be set -/
structure SetOk (X : Cx) (i : Nat) (x : Str) : Prop where
  at_ : X.N[i]? = some x
  loc : Loc X.env.scope x
/-! ### blocks -/
theorem ssok_nil : SsOk C X W [] (fun ρ => .nx ρ) := fun pa U σ H ρ E r h => semSs_of pss_nil (h σ H (Sq.refl r))
theorem ssok_cons {st : Stmt} {rest : List Stmt} {m n : Rho → SR} (h1 : SOk C X W st m) (h2 : SsOk C X W rest n) : SsOk C X W (st :: rest) (fun ρ => (m ρ).seq n) := by
  intro pa U σ H ρ E r h
  refine semSs_of (pss_cons ps_sem pss_sem) ?_
  refine h1 pa U σ H ρ _ r ?_
  have h : PostS X C W pa U E σ H ρ ((m ρ).seq n) := h
  cases e : m ρ with
  | nx ρ' => rw [e] at h; exact fun σ' H' q => h2 pa U σ' H' ρ' E q.r (PostS.shift (X := X) (C := C) h q)
  | rt d ρ' => rw [e] at h; exact h
  | bk ρ' => rw [e] at h; exact h
  | ex c ρ' => rw [e] at h; exact h
  | bad => rw [e] at h; exact h
theorem sok_pass {pos : Pos} : SOk C X W (.Pass pos) (fun ρ => .nx ρ) := fun pa U σ H ρ E r h => semS_of ps_pass (h σ H (Sq.refl r))
theorem sok_break {pos : Pos} : SOk C X W (.Break pos) (fun ρ => .bk ρ) := fun pa U σ H ρ E r h => semS_of ps_break (h σ H (Sq.refl r))
/-- no comprehension -/
def noLc : Expr → Bool
  | .ListComp .. => false
  | .SetComp .. => false
  | .DictComp .. => false
  | _ => true
theorem swaps_no {e : Expr} (h : noLc e = true) (t : Option Expr) (l : Nat) (env : Env) : swapsWith e t l env = pure false := by
  cases e <;> first | rfl | cases h
theorem sok_expr {e : Expr} {m : Rho → Res D} {pos : Pos} (he : EOk C X W e m) (hn : noLc e = true) : SOk C X W (.Expr e pos) (fun ρ => (m ρ).to fun _ ρ1 => .nx ρ1) := by
  intro pa U σ H ρ E r h
  refine semS_of (ps_expr pe_sem (swaps_no hn _ _ _)) ?_
  exact he pa U σ H ρ _ r (h.to fun d ρ1 H1 q h1 v rv => h1 σ H1 (Sq.refl q.r))
theorem sok_ret {e : Expr} {m : Rho → Res D} {pos : Pos} (he : EOk C X W e m) : SOk C X W (.Return (some e) pos) (fun ρ => (m ρ).to fun d ρ1 => .rt d ρ1) := by
  intro pa U σ H ρ E r h
  refine semS_of (ps_ret pe_sem) ?_
  exact he pa U σ H ρ _ r (h.to fun d ρ1 H1 q h1 v rv => h1 σ H1 v (Sq.refl q.r) rv)
def ifR (c : Rho → Res D) (m n : Rho → SR) : Rho → SR := fun ρ => (c ρ).to fun x ρ1 => match x with
  | .bool true => m ρ1
  | .bool false => n ρ1
  | _ => .bad
theorem sok_if {c : Expr} {a b : List Stmt} {l : Rho → Res D} {m n : Rho → SR} {pos : Pos} (hc : TOk C X W c l) (ha : SsOk C X W a m) (hb : SsOk C X W b n) : SOk C X W (.If c a b pos) (ifR l m n) := by
  intro pa U σ H ρ E r h
  refine semS_of (ps_if pt_sem pss_sem pss_sem) ?_
  refine hc pa U σ H ρ _ r (h.to fun x ρ1 H1 q h1 => ?_)
  split at h1
  · refine ⟨true, rfl, ?_⟩
    rw [if_pos rfl]
    exact ha pa U σ H1 ρ1 E q.r h1
  · refine ⟨false, rfl, ?_⟩
    rw [if_neg Bool.false_ne_true]
    exact hb pa U σ H1 ρ1 E q.r h1
  · exact h1.elim
/-! ### raise -/
def ExAv (P : Program) (K : PySem.W.Frag) (mg : Str → Option Value) (C : Cxt) (c : Exn) : Prop := ∃ (bmB : List Value) (B newId initId : String), ExcBaseFacts B newId initId bmB ∧ PySem.W.excIn K (C.exa c) bmB newId = true ∧ mg c.cname = some (.ref (C.exa c)) ∧
  PySem.W.keepIn K (.ref (C.exa c)) = true ∧ PySem.W.subIn K (.ref (C.exa c)) (.type "BaseException") = some true ∧ PySem.W.typeIn K (.ref (C.exa c)) = some (.type "type")
theorem sok_raise {c : Exn} {m : Str} {j : Nat} {p p2 pos pos' : Pos} (x : XOk C k X W) (h : ExAv X.prog X.K X.mg C c) (hg : Gl X c.cname) : SOk C X W (.Raise (some (.Call (.Name c.cname p) [.Constant (.str m) j p2] [] pos)) none pos') (fun ρ => .ex c ρ) := by
  intro pa U σ H ρ E r q
  obtain ⟨bmB, B, newId, initId, h1, h2, h3, h4, h5, h6⟩ := h
  refine semS_of (L2N.ps_raise x.calm x.tk (L2N.pmk_own h1 h2 h3 h4 (raises_own h5 h6) hg (by cases c <;> decide))) ?_
  exact ⟨rfl, c, rfl, q σ H (Sq.refl r)⟩
/-! ### name = e -/
def setR (i : Nat) (m : Rho → Res D) : Rho → SR := fun ρ => (m ρ).to fun d ρ1 => .nx (ρ1.set i (.val d))
theorem sok_set {i : Nat} {y : Str} {e : Expr} {m : Rho → Res D} {py pos : Pos} (x : XS C k X W) (hy : SetOk X i y) (he : EOk C X W e m) (hn : noLc e = true) : SOk C X W (.Assign [.Name y py] e pos) (setR i m) := by
  intro pa U σ H ρ E r h
  refine semS_of (ps_set x.xo.nd hy.at_ hy.loc pe_sem (swaps_no hn _ _ _) (.inl (x.fn y))) ?_
  exact he pa U σ H ρ _ r (h.to fun d ρ1 H1 q h1 v rv => h1 _ H1 (set_dat q.r rv))
theorem swaps_cell {e : Expr} {env : Env} {y : Str} {py : Pos} {l : Nat} (h : (env.scope.names.lookup y == some NameKind.local) = false) : swapsWith e (some (.Name y py)) l env = pure false := by
  have hk : (env.kindOf y == some NameKind.local) = false := h
  cases e <;> first | rfl | (unfold swapsWith; simp [hk])
theorem sok_setC {i : Nat} {y : Str} {e : Expr} {m : Rho → Res D} {py pos : Pos} (x : XS C k X W) (hy : SetOk X i y) (he : EOk C X W e m) (hl : (X.env.scope.names.lookup y == some NameKind.local) = false) : SOk C X W (.Assign [.Name y py] e pos) (setR i m) := by
  intro pa U σ H ρ E r h
  refine semS_of (ps_set x.xo.nd hy.at_ hy.loc pe_sem (swaps_cell hl) (.inl (x.fn y))) ?_
  exact he pa U σ H ρ _ r (h.to fun d ρ1 H1 q h1 v rv => h1 _ H1 (set_dat q.r rv))
theorem sok_setLc {i : Nat} {y : Str} {elt tg iter : Expr} {ifs : List Expr} {scope : Scope} {own : List (Str × Nat)} {py pos spos : Pos} {p : Pt} {it : Rho → Res (List D)} {tst : Option (Rho → Res D)} {em : Rho → Res D} (x : XS C k X W) (hy : X.N[i]? = some y) (hyl : X.env.scope.names.lookup y = some .local)
    (hl : (py.line == pos.line) = true) (hsw : (scope.names.any fun (n, k) => n == y && (k == .local || k == .cell)) = false) (ok : BlkOk X.N X.env.scope scope own)
    (hi : IOk C X W tg iter it) (hg : ∀ s H A cl fp, TgOk C (Blk X scope s H A cl fp) p tg) (ht : ∀ s H A cl fp, TstOk C (Blk X scope s H A cl fp) ifs tst) (he : ∀ s H A cl fp, EOk C (Blk X scope s H A cl fp) NoX elt em)
    (shape : (ifs = [] ∧ tst = none) ∨ (∃ c m, ifs = [c] ∧ tst = some m)) (hp : ∀ i ∈ p.ixs, i ∈ own.map (·.2)) (hs : ∀ v, foldedSetIterable iter X.env v = pure v) :
    SOk C X W (.Assign [.Name y py] (.ListComp elt [⟨tg, iter, ifs, 0⟩] scope pos) spos) (setR i (compR p (own.map (·.2)) it tst em)) := by
  intro pa U σ H ρ E r h
  refine semS_of (ps_setLc (wi := tiSem X tg iter) (g := uG X scope tg) (tt := uTs X scope ifs) (te := uE X scope elt) x.xo.calm x.xo.nd hy hyl (sw_true x.kd hyl hl hsw) pi_sem ok (fun s H A cl fp => ⟨fun pins s1 σ H v u Q I r h => h s _ A cl fp pins s1 u I r⟩) (lc_pts shape) (fun s H A cl fp => ⟨fun pins s1 σ H Q I h => h s _ A cl fp pins s1 I⟩) hs) ?_
  exact lc_read x.xo ok hi hg ht he shape hp hs pa U σ H ρ _ r (h.to fun d ρ1 H1 q h1 v rv => h1 _ H1 (set_dat q.r rv))
/-- a new thing in a slot -/
theorem set_new {P : Program} {w : World} {K : PySem.W.Frag} {pa : Nat → Addr} {Un : AP} {σ : St} {H : Hp} {ρ : Rho} {i : Nat} {p : Addr} {s : Sl} (r : R P w K C pa Un σ H ρ) (hp : Un p) (ho : ∀ W, Kp (Wd Un σ ρ) H W H → SlOk P w K C pa W H i (some (some (.ref p))) s) :
    R P w K C pa (fun a => Un a ∧ a ≠ p) (σ.set i (some (.ref p))) H (ρ.set i s) ∧ ∀ a, Own (σ.set i (some (.ref p))) (ρ.set i s) a → Own σ ρ a ∨ a = p := by
  have own : ∀ j a, OwnAt (σ.set i (some (.ref p))) (ρ.set i s) j a → (j ≠ i ∧ OwnAt σ ρ j a) ∨ (j = i ∧ a = p) := fun j a h => by
    rcases ownAt_set2 h with hl | ⟨hj, _, e, _⟩
    · exact .inl hl
    · cases e; exact .inr ⟨hj, rfl⟩
  have wd : ∀ a, Wd (fun a => Un a ∧ a ≠ p) (σ.set i (some (.ref p))) (ρ.set i s) a → Wd Un σ ρ a := by
    rintro a (h | ⟨j, h⟩)
    · exact .inl h.1
    · rcases own j a h with ⟨_, h⟩ | ⟨_, h⟩
      · exact .inr ⟨j, h⟩
      · rw [h]; exact .inl hp
  have kp : Kp (Wd Un σ ρ) H (Wd (fun a => Un a ∧ a ≠ p) (σ.set i (some (.ref p))) (ρ.set i s)) H := Kp.less wd
  refine ⟨⟨by rw [List.length_set, List.length_set]; exact r.len, fun a z => r.dom a z.1, r.tabs, ?_, ?_, ?_⟩, fun a ⟨j, h⟩ => (own j a h).elim (fun z => .inl ⟨j, z.2⟩) fun z => .inr z.2⟩
  · rintro a ⟨j, h⟩ hu
    rcases own j a h with ⟨_, h⟩ | ⟨_, h⟩
    · exact r.out a ⟨j, h⟩ hu.1
    · exact hu.2 h
  · intro j l a h1 h2
    rcases own j a h1 with ⟨n1, h1⟩ | ⟨n1, h1⟩ <;> rcases own l a h2 with ⟨n2, h2⟩ | ⟨n2, h2⟩
    · exact r.apart j l a h1 h2
    · exact absurd hp (fun z => r.out a ⟨j, h1⟩ (by rw [h2]; exact z))
    · exact absurd hp (fun z => r.out a ⟨l, h2⟩ (by rw [h1]; exact z))
    · omega
  · intro j t hj
    by_cases e : i = j
    · subst e
      have hl : i < ρ.length := by
        have := (List.getElem?_eq_some_iff.mp hj).1
        simpa using this
      rw [List.getElem?_set_self hl] at hj
      cases hj
      rw [List.getElem?_set_self (by rw [r.len]; exact hl)]
      exact ho _ kp
    · rw [List.getElem?_set_ne e] at hj
      rw [List.getElem?_set_ne e]
      exact (r.slot j t hj).kp kp fun p o _ _ q => q
/-- a fresh thing stands at p -/
theorem R.add {P : Program} {w : World} {K : PySem.W.Frag} {pa : Nat → Addr} {U : AP} {σ : St} {H : Hp} {ρ : Rho} {p : Addr} {o : HO} (r : R P w K C pa U σ H ρ) (hp : H p = none) :
    R P w K C pa (fun a => U a ∨ a = p) σ (upd H p o) ρ ∧ Kp (Wd U σ ρ) H (Wd (fun a => U a ∨ a = p) σ ρ) (upd H p o) := by
  have nD := r.fresh hp
  have kp : Kp (Wd U σ ρ) H (Wd (fun a => U a ∨ a = p) σ ρ) (upd H p o) := fun a u e n _ => ⟨by rw [upd_ne (ne_of_none e hp)]; exact e, fun z => z.elim (fun z => z.elim (fun z => n (.inl z)) fun z => (ne_of_none e hp) z) fun z => n (.inr z)⟩
  refine ⟨⟨r.len, fun a z => ?_, r.tabs.ext (Ex.new hp), fun a z u => ?_, r.apart, fun i s e => (r.slot i s e).kp kp fun q o' _ _ e' => by rw [upd_ne (ne_of_none e' hp)]; exact e'⟩, kp⟩
  · rcases z with z | z
    · exact (Ex.new hp).dom (r.dom a z)
    · rw [z, upd_same]; exact fun z => nomatch z
  · rcases u with u | u
    · exact r.out a z u
    · exact nD (.inr (by rw [← u]; exact z))
/-- a new thing made, and put into a slot -/
theorem new_slot {P : Program} {w : World} {K : PySem.W.Frag} {pa : Nat → Addr} {U : AP} {σ : St} {H : Hp} {ρ : Rho} {p : Addr} {o : HO} {i : Nat} {s : Sl} (r : R P w K C pa U σ H ρ) (hp : H p = none)
    (ho : ∀ W, SlOk P w K C pa W (upd H p o) i (some (some (.ref p))) s) : Sq P w K C pa U σ H ρ (σ.set i (some (.ref p))) (upd H p o) (ρ.set i s) := by
  obtain ⟨r1, _⟩ := R.add (o := o) r hp
  obtain ⟨r2, s2⟩ := set_new (i := i) (s := s) r1 (.inr rfl) fun W _ => ho W
  refine ⟨r2.less fun a z => ⟨.inl z, fun e => r.dom a z (by rw [e]; exact hp)⟩, Gr.ex (Ex.new hp), fun a z => (s2 a z).elim .inl fun z => .inr (by rw [z]; exact hp)⟩
theorem sok_setL {i : Nat} {y : Str} {py p2 pos : Pos} (x : XS C k X W) (hy : SetOk X i y) : SOk C X W (.Assign [.Name y py] (.List [] p2) pos) (fun ρ => .nx (ρ.set i (.own false []))) := by
  intro pa U σ H ρ E r h
  refine semS_of (ps_set x.xo.nd hy.at_ hy.loc (pe_lst pa_nil) (swaps_no rfl _ _ _) (.inl (x.fn y))) ?_
  refine ⟨by rw [sizeLine_eq]; show 0 ≤ _; omega, fun p hp => h _ _ (new_slot r hp fun W => ⟨p, [], rfl, (fun z => nomatch z), upd_same, .nil⟩)⟩
theorem sok_setD {i : Nat} {y : Str} {py p2 pos : Pos} (x : XS C k X W) (hy : SetOk X i y) : SOk C X W (.Assign [.Name y py] (.Dict [] [] p2) pos) (fun ρ => .nx (ρ.set i (.dic false []))) := by
  intro pa U σ H ρ E r h
  refine semS_of (ps_set x.xo.nd hy.at_ hy.loc pe_newD (swaps_no rfl _ _ _) (.inl (x.fn y))) ?_
  exact fun p hp hs => h _ _ (new_slot r hp fun W => ⟨p, rfl, (fun z => nomatch z), [], upd_same, hs, Nat.zero_le _, List.nodup_nil, .nil⟩)
end
end Dm
namespace Dm
open PySem PySem.Spec PyProof.Rows L2 LamX
section
variable {X : Cx} {C : Cxt} {W : XW} {k : Nat}
/-! ### a, b = e by a pattern -/
def asgR (p : Pt) (m : Rho → Res D) : Rho → SR := fun ρ => (m ρ).to fun d ρ1 => match bindP p d ρ1 with
  | some ρ2 => .nx ρ2
  | none => .bad
def isTup : Expr → Bool
  | .Tuple .. => true
  | _ => false
/-- no exchange of stores -/
def noSwap (tg e : Expr) : Bool := !isTup e || (match tg with
  | .Tuple [.Tuple .., .Tuple ..] _ _ => true
  | _ => false)
theorem noSwap_of {tg e : Expr} (h : noSwap tg e = true) (env : Env) : swappedStores [tg] e env = pure none := by
  cases e with
  | Tuple vs k pos =>
    simp only [noSwap, isTup, Bool.not_true, Bool.false_or] at h
    split at h
    · unfold swappedStores
      dsimp only
      split
      · rfl
      · split
        · rfl
        · rfl
    · cases h
  | _ => cases tg <;> rfl
theorem sok_asg {p : Pt} {tg e : Expr} {m : Rho → Res D} {pos : Pos} (x : XS C k X W) (hg : TgOk C X p tg) (he : EOk C X W e m) (hn : noLc e = true) (hw : noSwap tg e = true) (hp : plainE tg = true) : SOk C X W (.Assign [tg] e pos) (asgR p m) := by
  intro pa U σ H ρ E r h
  obtain ⟨g, pg, hgq⟩ := hg
  refine semS_of (ps_asg pe_sem pg (swaps_no hn _ _ _) (noSwap_of hw _) (by rw [assignEach_cons hp]; rfl)) ?_
  refine he pa U σ H ρ _ r (h.to fun d ρ1 H1 q h1 v rv => ?_)
  cases eb : bindP p d ρ1 with
  | none => rw [eb] at h1; exact h1.elim
  | some ρ2 =>
    rw [eb] at h1
    exact hgq pa U σ H1 ρ1 v d ρ2 _ q.r eb rv fun σ' sq _ => h1 σ' H1 sq
/-! ### several new things at once -/
inductive Fl where
  | val (d : D)
  | lst
  | dct
def Fl.sl : Fl → Sl
  | .val d => .val d
  | .lst => .own false []
  | .dct => .dic false []
/-- v is what f says; N: where the new things are -/
def FlOk (P : Program) (w : World) (K : PySem.W.Frag) (W : AP) (H : Hp) (N : AP) (v : V) : Fl → Prop
  | .val d => Rp K W H v d
  | .lst => ∃ p, v = .ref p ∧ N p ∧ H p = some (.lst [])
  | .dct => ∃ p, v = .ref p ∧ N p ∧ H p = some (dicO P w p []) ∧ (p == sysModules) = false
theorem FlOk.kp {P : Program} {w : World} {K : PySem.W.Frag} {W W' : AP} {H H' : Hp} {N N' : AP} {v : V} {f : Fl} (h : FlOk P w K W H N v f) (k : Kp W H W' H') (hn : ∀ p, N p → N' p) (hh : ∀ p o, N p → H p = some o → (∀ ps, o ≠ .tbl ps) → H' p = some o) : FlOk P w K W' H' N' v f := by
  cases f with
  | val d => exact Rp.kp k h
  | lst => obtain ⟨p, e, n, q⟩ := h; exact ⟨p, e, hn p n, hh p _ n q fun ps z => nomatch z⟩
  | dct => obtain ⟨p, e, n, q, z⟩ := h; exact ⟨p, e, hn p n, hh p _ n q (fun ps z => nomatch z), z⟩
/-- values for several, the new ones apart -/
inductive Fls (P : Program) (w : World) (K : PySem.W.Frag) (W : AP) (H : Hp) : AP → List V → List Fl → Prop
  | nil {N : AP} : Fls P w K W H N [] []
  | val {N : AP} {v : V} {d : D} {vs : List V} {fs : List Fl} : Rp K W H v d → Fls P w K W H N vs fs → Fls P w K W H N (v :: vs) (.val d :: fs)
  | new {N N' : AP} {p : Addr} {f : Fl} {vs : List V} {fs : List Fl} : N p → (∀ a, N' a → N a ∧ a ≠ p) → (∀ d, f ≠ .val d) → FlOk P w K W H N (.ref p) f → Fls P w K W H N' vs fs → Fls P w K W H N (.ref p :: vs) (f :: fs)
def PostF (X : Cx) (C : Cxt) (W : XW) (pa : Nat → Addr) (U : AP) (σ : St) (H : Hp) (ρ : Rho) (Q : List V → Hp → Prop) (Z : List Fl → Rho → Hp → Prop) : Res (List Fl) → Prop
  | .ok fs ρ' => ∀ H' (N : AP) vs, (∀ a, N a → H a = none) → SqX X C pa U σ H ρ σ H' ρ' → RX X C pa (fun a => U a ∨ N a) σ H' ρ' → Fls X.prog X.w X.K (Wd (fun a => U a ∨ N a) σ ρ') H' N vs fs → Q vs H'
  | .exc c ρ' => ∀ H', SqX X C pa U σ H ρ σ H' ρ' → W c σ H'
  | .bad => False
def FsOk (C : Cxt) (X : Cx) (W : XW) (es : List Expr) (m : Rho → Res (List Fl)) : Prop := ∃ t, PA X es t ∧ ∀ pa U σ H ρ (Q : List V → Hp → Prop), RX X C pa U σ H ρ → PostF X C W pa U σ H ρ Q (fun _ _ _ => True) (m ρ) → t σ H Q
theorem fsok_nil : FsOk C X W [] (fun ρ => .ok [] ρ) := ⟨tNil, pa_nil, fun pa U σ H ρ Q r h => h H (fun _ => False) [] (fun a z => z.elim) (Sq.refl r) (r.less (U' := U) (fun a z => z.elim id False.elim)) .nil⟩
def consF (m : Rho → Res Fl) (n : Rho → Res (List Fl)) : Rho → Res (List Fl) := fun ρ => (m ρ).bind fun x ρ1 => (n ρ1).bind fun xs ρ2 => .ok (x :: xs) ρ2
def valF (m : Rho → Res D) : Rho → Res Fl := fun ρ => (m ρ).bind fun d ρ1 => .ok (.val d) ρ1
theorem fsok_val {e : Expr} {es : List Expr} {m : Rho → Res D} {n : Rho → Res (List Fl)} (he : EOk C X W e m) (hs : FsOk C X W es n) (hp : plainE e = true) : FsOk C X W (e :: es) (consF (valF m) n) := by
  obtain ⟨t, pt, ht⟩ := hs
  refine ⟨tCons (tSem X e) t, pa_cons pe_sem pt (star_of hp es X.env), fun pa U σ H ρ Q r h => ?_⟩
  refine he pa U σ H ρ _ r ?_
  unfold consF valF at h
  cases em : m ρ with
  | bad => rw [em] at h; exact h
  | exc c ρ1 => rw [em] at h; exact h
  | ok d ρ1 =>
    rw [em] at h
    intro H1 q1 v rv
    refine ht pa U σ H1 ρ1 _ q1.r ?_
    simp only [Res.bind_ok] at h
    cases en : n ρ1 with
    | bad => rw [en] at h; exact h
    | exc c ρ2 => rw [en] at h; exact fun H2 q2 => h H2 (q1.trans q2)
    | ok fs ρ2 =>
      rw [en] at h
      simp only [Res.bind_ok] at h
      intro H2 N vs hN q2 r2 fl
      refine h H2 N (v :: vs) (fun a z => ?_) (q1.trans q2) r2 (.val (rv.kp fun a u e n t => ?_) fl)
      · cases eh : H a with
        | none => rfl
        | some o => exact absurd (hN a z) (q1.gr.dom a (by rw [eh]; simp))
      · refine ⟨(q2.kp a u e n t).1, fun z => ?_⟩
        rcases z with (z | z) | z
        · exact (q2.kp a u e n t).2 (.inl z)
        · rw [hN a z] at e; cases e
        · exact (q2.kp a u e n t).2 (.inr z)
/-- a new thing, then the rest -/
theorem fs_new {f : Fl} {t : TA} {n : Rho → Res (List Fl)} (ht : ∀ pa U σ H ρ (Q : List V → Hp → Prop), RX X C pa U σ H ρ → PostF X C W pa U σ H ρ Q (fun _ _ _ => True) (n ρ) → t σ H Q) {pa U} {σ : St} {H : Hp} {ρ : Rho} {Q : List V → Hp → Prop} {p : Addr} {o : HO}
    (r : RX X C pa U σ H ρ) (hp : H p = none) (hf : ∀ d, f ≠ .val d) (hf2 : ∀ W H' N, N p → H' p = some o → FlOk X.prog X.w X.K W H' N (.ref p) f) (ho : ∀ ps, o ≠ .tbl ps) (h : PostF X C W pa U σ H ρ Q (fun _ _ _ => True) (consF (fun ρ => .ok f ρ) n ρ)) : t σ (upd H p o) fun vs H' => Q (.ref p :: vs) H' := by
  obtain ⟨r1, k1⟩ := R.add (o := o) r hp
  refine ht pa (fun a => U a ∨ a = p) σ (upd H p o) ρ _ r1 ?_
  have q0 := Sq.ex r (Ex.new (o := o) hp)
  have sub : ∀ a, U a → U a ∨ a = p := fun a z => .inl z
  unfold consF at h
  simp only [Res.bind_ok] at h
  cases en : n ρ with
  | bad => rw [en] at h; exact h
  | exc c ρ2 => rw [en] at h; exact fun H2 q2 => h H2 (q0.trans (q2.less sub))
  | ok fs ρ2 =>
    rw [en] at h
    simp only [Res.bind_ok] at h
    intro H2 N vs hN q2 r2 fl
    have np : ∀ a, N a → a ≠ p := fun a z e => by
      have := hN a z
      rw [e, upd_same] at this; cases this
    have hp2 : H2 p = some o := q2.gr.keep p o upd_same (fun z => r1.out p z (.inr rfl)) ho
    have ss : ∀ a, (U a ∨ (N a ∨ a = p)) → ((U a ∨ a = p) ∨ N a) := fun a z => z.elim (fun z => .inl (.inl z)) fun z => z.elim .inr fun z => .inl (.inr z)
    refine h H2 (fun a => N a ∨ a = p) (.ref p :: vs) (fun a z => ?_) (q0.trans (q2.less sub)) (r2.less ss) (.new (.inr rfl) (fun a z => ⟨.inl z, np a z⟩) hf (hf2 _ _ _ (.inr rfl) hp2) (fls_less ?_ fl))
    · rcases z with z | z
      · have := hN a z
        cases eh : H a with
        | none => rfl
        | some u => rw [Ex.new (o := o) hp a u eh] at this; cases this
      · rw [z]; exact hp
    · rintro a (z | z)
      · exact .inl (ss a z)
      · exact .inr z
where
  fls_less {P : Program} {w : World} {K : PySem.W.Frag} {W W' : AP} {H : Hp} {N : AP} {vs : List V} {fs : List Fl} (h : ∀ a, W' a → W a) (f : Fls P w K W H N vs fs) : Fls P w K W' H N vs fs := by
    induction f with
    | nil => exact .nil
    | val r _ ih => exact .val (r.kp (Kp.less h)) ih
    | new h1 h2 h3 h4 _ ih => exact .new h1 h2 h3 (h4.kp (Kp.less h) (fun _ z => z) fun _ _ _ z _ => z) ih
theorem fsok_lst {es : List Expr} {n : Rho → Res (List Fl)} {pos : Pos} (hs : FsOk C X W es n) : FsOk C X W (.List [] pos :: es) (consF (fun ρ => .ok .lst ρ) n) := by
  obtain ⟨t, pt, ht⟩ := hs
  refine ⟨tCons (tLst tNil) t, pa_cons (pe_lst pa_nil) pt (star_of rfl es X.env), fun pa U σ H ρ Q r h => ?_⟩
  refine ⟨by rw [sizeLine_eq]; show 0 ≤ _; omega, fun p hp => ?_⟩
  exact fs_new (f := .lst) ht r hp (fun d z => nomatch z) (fun W H' N n q => ⟨p, rfl, n, q⟩) (fun ps z => nomatch z) h
theorem fsok_dct {es : List Expr} {n : Rho → Res (List Fl)} {pos : Pos} (hs : FsOk C X W es n) : FsOk C X W (.Dict [] [] pos :: es) (consF (fun ρ => .ok .dct ρ) n) := by
  obtain ⟨t, pt, ht⟩ := hs
  refine ⟨tCons (tNewD X.prog X.w) t, pa_cons pe_newD pt (star_of rfl es X.env), fun pa U σ H ρ Q r h => ?_⟩
  intro p hp hs
  exact fs_new (f := .dct) ht r hp (fun d z => nomatch z) (fun W H' N n q => ⟨p, rfl, n, q, hs⟩) (fun ps z => nomatch z) h
/-- into slots, one after another -/
def putF : List Nat → List Fl → Rho → Rho
  | i :: is, f :: fs, ρ => putF is fs (ρ.set i f.sl)
  | _, _, ρ => ρ
def putV : List Nat → List V → St → St
  | i :: is, v :: vs, σ => putV is vs (σ.set i (some v))
  | _, _, σ => σ
theorem put_ok {pa : Nat → Addr} {H : Hp} : ∀ {is : List Nat} {vs : List V} {fs : List Fl} {σ : St} {ρ : Rho} {Un U N : AP}, (∀ a, U a → Un a ∧ ¬ N a) → (∀ a, N a → Un a) → RX X C pa Un σ H ρ → Fls X.prog X.w X.K (Wd Un σ ρ) H N vs fs → is.length = fs.length →
    RX X C pa U (putV is vs σ) H (putF is fs ρ) ∧ ∀ a, Own (putV is vs σ) (putF is fs ρ) a → Own σ ρ a ∨ N a
  | [], vs, fs, σ, ρ, Un, U, N, hU, hN, r, fl, hl => by
    cases fl with
    | nil => exact ⟨r.less fun a z => (hU a z).1, fun a z => .inl z⟩
    | val => simp at hl
    | new => simp at hl
  | i :: is, vs, fs, σ, ρ, Un, U, N, hU, hN, r, fl, hl => by
    cases fl with
    | nil => simp at hl
    | val rv t =>
      have s1 := set_dat (i := i) r rv
      obtain ⟨h1, h2⟩ := put_ok (is := is) (U := U) hU hN s1.r (fls_kp s1.kp t) (by simpa using hl)
      exact ⟨h1, fun a z => (h2 a z).elim (fun z => (s1.sub a z).elim .inl fun z' => absurd z (fun z => s1.r.wdom (.inr z) z')) .inr⟩
    | new np hn hf hfl t =>
      rename_i N' p f vs fs
      have hs : ∀ W, Kp (Wd Un σ ρ) H W H → SlOk X.prog X.w X.K C pa W H i (some (some (.ref p))) f.sl := fun W _ => by
        cases f with
        | val d => exact absurd rfl (hf d)
        | lst => obtain ⟨p', e, _, q⟩ := hfl; cases e; exact ⟨p, [], rfl, (fun z => nomatch z), q, .nil⟩
        | dct => obtain ⟨p', e, _, q, z⟩ := hfl; cases e; exact ⟨p, rfl, (fun z => nomatch z), [], q, z, Nat.zero_le _, List.nodup_nil, .nil⟩
      obtain ⟨r1, o1⟩ := set_new (i := i) r (hN p np) hs
      have kp : Kp (Wd Un σ ρ) H (Wd (fun a => Un a ∧ a ≠ p) (σ.set i (some (.ref p))) (ρ.set i f.sl)) H := Kp.less fun a z => z.elim (fun z => .inl z.1) fun z => (o1 a z).elim .inr fun z => by rw [z]; exact .inl (hN p np)
      obtain ⟨h1, h2⟩ := put_ok (is := is) (U := U) (N := N') (fun a z => ⟨⟨(hU a z).1, fun e => (hU a z).2 (by rw [e]; exact np)⟩, fun z' => (hU a z).2 (hn a z').1⟩) (fun a z => ⟨hN a (hn a z).1, (hn a z).2⟩) r1
        (fls_kp kp t) (by simpa using hl)
      exact ⟨h1, fun a z => (h2 a z).elim (fun z => (o1 a z).elim .inl fun z => .inr (by rw [z]; exact np)) fun z => .inr (hn a z).1⟩
where
  fls_kp {P : Program} {w : World} {K : PySem.W.Frag} {W : AP} {Un : AP} {H : Hp} {N : AP} {vs : List V} {fs : List Fl} {σ : St} {ρ : Rho} (k : Kp W H (Wd Un σ ρ) H) (f : Fls P w K W H N vs fs) : Fls P w K (Wd Un σ ρ) H N vs fs := by
    induction f with
    | nil => exact .nil
    | val r _ ih => exact .val (r.kp k) ih
    | new h1 h2 h3 h4 _ ih => exact .new h1 h2 h3 (h4.kp k (fun _ z => z) fun _ _ _ z _ => z) ih
theorem vals_len {P : Program} {w : World} {K : PySem.W.Frag} {W : AP} {H : Hp} {N : AP} {vs : List V} {fs : List Fl} (f : Fls P w K W H N vs fs) : vs.length = fs.length := by
  induction f with
  | nil => rfl
  | val _ _ ih => simp [ih]
  | new _ _ _ _ _ ih => simp [ih]
/-- what several values do to the slots is is -/
def putR (is : List Nat) (m : Rho → Res (List Fl)) : Rho → SR := fun ρ => (m ρ).to fun fs ρ1 => if fs.length = is.length then .nx (putF is fs ρ1) else .bad
theorem put_read {is : List Nat} {m : Rho → Res (List Fl)} {t : TA} {pa U} {σ : St} {H : Hp} {ρ : Rho} {E : Ends} {Q : List V → Hp → Prop} (ht : ∀ pa U σ H ρ (Q : List V → Hp → Prop), RX X C pa U σ H ρ → PostF X C W pa U σ H ρ Q (fun _ _ _ => True) (m ρ) → t σ H Q)
    (r : RX X C pa U σ H ρ) (h : PostS X C W pa U E σ H ρ (putR is m ρ)) (hq : ∀ vs H', vs.length = is.length → E.nx (putV is vs σ) H' → Q vs H') : t σ H Q := by
  refine ht pa U σ H ρ _ r ?_
  unfold putR at h
  cases em : m ρ with
  | bad => rw [em] at h; exact h
  | exc c ρ1 => rw [em] at h; exact fun H' q => h σ H' q
  | ok fs ρ1 =>
    rw [em] at h
    simp only [Res.to_ok] at h
    by_cases hl : fs.length = is.length
    · rw [if_pos hl] at h
      intro H' N vs hN q r' fl
      have hNU : ∀ a, U a → ¬ N a := fun a z n => r.dom a z (hN a n)
      obtain ⟨r2, o2⟩ := put_ok (is := is) (U := U) (fun a z => ⟨.inl z, hNU a z⟩) (fun a z => .inr z) r' fl hl.symm
      exact hq vs H' (by rw [vals_len fl, hl]) (h _ H' ⟨r2, q.gr, fun a z => (o2 a z).elim (q.sub a) fun z => .inr (hN a z)⟩)
    · rw [if_neg hl] at h; exact h.elim
/-- the exchange of stores, told without the semantics -/
def swapN (sc : Scope) (ts : List Expr) : List Str := ts.filterMap fun
  | .Name id pos => if sc.names.lookup id == some .local && pos.line == (ts.head?.map (·.pos.line)).getD 0 then some id else none
  | _ => none
def swapD (sc : Scope) (ts vs : List Expr) : Option (Option (List Str)) :=
  if (!(ts.length == 2 || ts.length == 3) || vs.length != ts.length) = true then some none
  else if (vs.any fun | .Starred .. => true | _ => false) = true then some none
  else if ((swapN sc ts).length != ts.length || (swapN sc ts).eraseDups.length != (swapN sc ts).length) = true then some none
  else if vs.all (foldedForSure 8) = true then some none
  else if vs.all (constantsAlone 8) = true then none
  else some (some (swapN sc ts))
theorem swapD_of {env : Env} {ts vs : List Expr} {a b : Nat} {p q : Pos} {r : Option (List Str)} (hb : env.blockKind = .function) (h : swapD env.scope ts vs = some r) : swappedStores [.Tuple ts a p] (.Tuple vs b q) env = pure r := by
  unfold swapD at h
  unfold swappedStores
  dsimp only
  rw [hb]
  by_cases h1 : (!(ts.length == 2 || ts.length == 3) || vs.length != ts.length) = true
  · rw [if_pos h1] at h
    cases h
    rw [if_pos (by simp only [Bool.or_eq_true] at h1 ⊢; exact .inl h1)]
  · rw [if_neg h1] at h
    rw [if_neg (by simpa using h1)]
    by_cases h2 : (vs.any fun | .Starred .. => true | _ => false) = true
    · rw [if_pos h2] at h; cases h; exact if_pos h2
    · rw [if_neg h2] at h
      refine (if_neg h2).trans ?_
      by_cases h3 : ((swapN env.scope ts).length != ts.length || (swapN env.scope ts).eraseDups.length != (swapN env.scope ts).length) = true
      · rw [if_pos h3] at h; cases h; exact if_pos h3
      · rw [if_neg h3] at h
        refine (if_neg h3).trans ?_
        by_cases h4 : vs.all (foldedForSure 8) = true
        · rw [if_pos h4] at h; cases h; exact if_pos h4
        · rw [if_neg h4] at h
          refine (if_neg h4).trans ?_
          by_cases h5 : vs.all (constantsAlone 8) = true
          · rw [if_pos h5] at h; cases h
          · rw [if_neg h5] at h
            refine (if_neg h5).trans ?_
            cases h
            rfl
theorem sok_par {i j : Nat} {x y : Str} {a b : Expr} {px py pt pt2 pos : Pos} {kt k2 : Nat} {m : Rho → Res (List Fl)} (xs : XS C k X W) (hi : X.N[i]? = some x) (hj : X.N[j]? = some y) (hij : i ≠ j) (hx : X.env.scope.names.lookup x = some .local) (hy : X.env.scope.names.lookup y = some .local)
    (hs : FsOk C X W [a, b] m) (hw : swapD X.env.scope [.Name x px, .Name y py] [a, b] = some (some [x, y])) : SOk C X W (.Assign [.Tuple [.Name x px, .Name y py] kt pt] (.Tuple [a, b] k2 pt2) pos) (putR [i, j] m) := by
  intro pa U σ H ρ E r h
  obtain ⟨t, pt', ht⟩ := hs
  refine semS_of (ps_par xs.xo.calm xs.xo.nd hi hj hij hx hy pt' (swapD_of xs.bk hw)) ?_
  refine put_read ht r h fun vs H' hl hn => ?_
  obtain ⟨v, w, rfl⟩ : ∃ v w, vs = [v, w] := by
    match vs, hl with
    | [v, w], _ => exact ⟨v, w, rfl⟩
  exact ⟨v, w, rfl, hn⟩
/-- the names of targets and their places -/
def NmsOk (X : Cx) : List Nat → List Expr → Prop
  | [], [] => True
  | i :: is, .Name x _ :: ts => SetOk X i x ∧ (X.fn x = true ∨ X.env.scope.names.lookup x = some .local) ∧ NmsOk X is ts
  | _, _ => False
theorem nms_pgs (hN : X.N.Nodup) : ∀ {is : List Nat} {ts : List Expr}, NmsOk X is ts → ∃ g, PGs X ts g ∧ ∀ vs σ H (Q : St → Hp → Prop), vs.length = is.length → Q (putV is vs σ) H → g vs σ H Q
  | [], [], _ => ⟨gNil, pgs_nil, fun vs σ H Q hl q => ⟨by
      cases vs with
      | nil => rfl
      | cons => simp at hl, by cases vs with | nil => exact q | cons => simp at hl⟩⟩
  | i :: is, .Name x p :: ts, h => by
    obtain ⟨g, pg, hg⟩ := nms_pgs hN h.2.2
    refine ⟨gCons (gName i) g, pgs_cons (pg_name hN h.1.at_ h.1.loc h.2.1) pg rfl, fun vs σ H Q hl q => ?_⟩
    cases vs with
    | nil => simp at hl
    | cons v vs => exact ⟨v, vs, rfl, hg vs _ H Q (by simpa using hl) q⟩
theorem nms_plain : ∀ {is : List Nat} {ts : List Expr}, NmsOk X is ts → plainTs ts = true ∧ ts.length = is.length
  | [], [], _ => ⟨rfl, rfl⟩
  | i :: is, .Name x p :: ts, h => by
    obtain ⟨h1, h2⟩ := nms_plain h.2.2
    exact ⟨by unfold plainTs; rw [h1]; rfl, by simp [h2]⟩
theorem sok_asgF {is : List Nat} {ts vs : List Expr} {kt k2 : Nat} {pt pt2 pos : Pos} {m : Rho → Res (List Fl)} (xs : XS C k X W) (hn : NmsOk X is ts) (hs : FsOk C X W vs m) (hw : swapD X.env.scope ts vs = some none) (hz : is.length ≤ 1000) :
    SOk C X W (.Assign [.Tuple ts kt pt] (.Tuple vs k2 pt2) pos) (putR is m) := by
  intro pa U σ H ρ E r h
  obtain ⟨t, pt', ht⟩ := hs
  obtain ⟨g, pg, hg⟩ := nms_pgs xs.xo.nd hn
  obtain ⟨n1, n2⟩ := nms_plain hn
  obtain ⟨e1, e2⟩ := plainTs_of (env := X.env) n1
  refine semS_of (ps_asg (pe_tup pt') (pg_tup xs.xo.calm pg (n := is.length) (by rw [e1, n2]) e2) rfl (swapD_of xs.bk hw) (by rw [assignEach_cons rfl]; rfl)) ?_
  -- the tuple that is made is new: it holds nothing of the frame
  show tTup t σ H _
  unfold tTup
  refine ht pa U σ H ρ _ r ?_
  unfold putR at h
  cases em : m ρ with
  | bad => rw [em] at h; exact h
  | exc c ρ1 => rw [em] at h; exact fun H' q => h σ H' q
  | ok fs ρ1 =>
    rw [em] at h
    simp only [Res.to_ok] at h
    by_cases hl : fs.length = is.length
    · rw [if_pos hl] at h
      intro H' N ws hN q r' fl
      have hwl : ws.length = is.length := by rw [vals_len fl, hl]
      have hNU : ∀ a, U a → ¬ N a := fun a z n => r.dom a z (hN a n)
      refine ⟨by rw [hwl, sizeLine_eq]; omega, fun p hp => ⟨p, ws, rfl, SqT.of upd_same, hwl, hg ws σ _ _ hwl ?_⟩⟩
      have exn := Ex.new (o := .tup ws) hp
      have r2 := r'.ex exn
      have q2 := q.trans (Sq.ex q.r exn)
      obtain ⟨r3, o3⟩ := put_ok (is := is) (U := U) (fun a z => ⟨.inl z, hNU a z⟩) (fun a z => .inr z) r2 (fls_ex exn fl) hl.symm
      exact h _ _ ⟨r3, q2.gr, fun a z => (o3 a z).elim (q2.sub a) fun z => .inr (hN a z)⟩
    · rw [if_neg hl] at h; exact h.elim
where
  fls_ex {P : Program} {w : World} {K : PySem.W.Frag} {W : AP} {H H1 : Hp} {N : AP} {vs : List V} {fs : List Fl} (e : Ex H H1) (f : Fls P w K W H N vs fs) : Fls P w K W H1 N vs fs := by
    induction f with
    | nil => exact .nil
    | val r _ ih => exact .val (r.kp (Kp.ex e)) ih
    | new h1 h2 h3 h4 _ ih => exact .new h1 h2 h3 (h4.kp (Kp.ex e) (fun _ z => z) fun p o _ z _ => e p o z) ih
end
end Dm
namespace Dm
open PySem PySem.Spec PyProof.Rows L2 LamX
theorem dicO_ne {P : Program} {w : World} {p : Addr} {xs : List (NestedKey × Addr × V)} {q : Str} : dicO P w p xs ≠ CodeO p q := by
  intro e
  unfold dicO CodeO at e
  simp only [HO.ext.injEq] at e
  have h := congrFun e ⟨Array.replicate (p + 1) { cls := .none, data := .fields #[.none, .str q 0] }, {}⟩
  have g : Heap.get? ⟨Array.replicate (p + 1) { cls := .none, data := .fields #[.none, .str q 0] }, {}⟩ p = some { cls := .none, data := .fields #[.none, .str q 0] } := by
    unfold Heap.get?
    have : (Array.replicate (p + 1) ({ cls := .none, data := .fields #[.none, .str q 0] } : Obj))[p]? = some { cls := .none, data := .fields #[.none, .str q 0] } := by
      rw [Array.getElem?_replicate, if_pos (Nat.lt_succ_self p)]
    simp only [this]
  have r : DicH P w p xs ⟨Array.replicate (p + 1) { cls := .none, data := .fields #[.none, .str q 0] }, {}⟩ := by
    rw [h]
    exact ⟨_, _, 0, g, rfl, rfl⟩
  obtain ⟨o, es, ep, ys, e1, _, e3, _⟩ := r
  rw [g] at e1
  cases e1
  cases e3
section
variable {P : Program} {w : World} {K : PySem.W.Frag} {C : Cxt} {pa : Nat → Addr} {U : AP} {σ : St} {H : Hp} {ρ : Rho}
/-- an own thing is written -/
theorem upd_slot {i : Nat} {p : Addr} {s s' : Sl} {o o' : HO} (r : R P w K C pa U σ H ρ) (e : ρ[i]? = some s) (ho : s.isO = true) (ho' : s'.isO = true) (hp : σ[i]? = some (some (.ref p))) (hH : H p = some o) (n1 : ∀ ps, o ≠ .tbl ps) (n2 : ∀ q, o ≠ CodeO p q)
    (hs : Kp (Wd U σ ρ) H (Wd U σ (ρ.set i s')) (upd H p o') → SlOk P w K C pa (Wd U σ (ρ.set i s')) (upd H p o') i (some (some (.ref p))) s') : Sq P w K C pa U σ H ρ σ (upd H p o') (ρ.set i s') := by
  have hi : i < ρ.length := (List.getElem?_eq_some_iff.mp e).1
  have own : ∀ j a, OwnAt σ (ρ.set i s') j a → OwnAt σ ρ j a := by
    rintro j a ⟨t, h1, h2, h3⟩
    by_cases ej : i = j
    · subst ej
      exact ⟨s, e, ho, h3⟩
    · rw [List.getElem?_set_ne ej] at h1
      exact ⟨t, h1, h2, h3⟩
  have wd : ∀ a, Wd U σ (ρ.set i s') a → Wd U σ ρ a := fun a h => h.elim .inl fun ⟨j, z⟩ => .inr ⟨j, own j a z⟩
  have pw : Own σ ρ p := ⟨i, s, e, ho, hp⟩
  have kp : Kp (Wd U σ ρ) H (Wd U σ (ρ.set i s')) (upd H p o') := fun a u q n _ => ⟨by rw [upd_ne (fun z => n (by rw [z]; exact .inr pw))]; exact q, fun z => n (wd a z)⟩
  have dom : ∀ a, H a ≠ none → upd H p o' a ≠ none := fun a z => by
    by_cases ea : a = p
    · rw [ea, upd_same]; exact fun z => nomatch z
    · rw [upd_ne ea]; exact z
  refine ⟨⟨by rw [List.length_set]; exact r.len, fun a z => dom a (r.dom a z), tabs_upd r.tabs hH n1 n2, fun a ⟨j, z⟩ => r.out a ⟨j, own j a z⟩, fun j l a h1 h2 => r.apart j l a (own j a h1) (own l a h2), fun j t hj => ?_⟩, ⟨fun a u q n _ => by rw [upd_ne (fun z => n (by rw [z]; exact pw))]; exact q, dom⟩, fun a ⟨j, z⟩ => .inl ⟨j, own j a z⟩⟩
  by_cases ej : i = j
  · subst ej
    rw [List.getElem?_set_self hi] at hj
    cases hj
    rw [hp]
    exact hs kp
  · rw [List.getElem?_set_ne ej] at hj
    refine (r.slot j t hj).kp kp fun p' u ho2 hp2 q => ?_
    rw [upd_ne]
    · exact q
    · intro z
      subst z
      exact ej (r.apart i j p' ⟨s, e, ho, hp⟩ ⟨t, hj, ho2, hp2⟩)
end
section
variable {X : Cx} {C : Cxt} {W : XW} {k : Nat}
/-! ### name += e -/
def augR (i : Nat) (m : Rho → Res D) : Rho → SR := fun ρ => match ρ[i]? with
  | some (.val (.int a)) => (m ρ).to fun d ρ1 => match d with
    | .int b => .nx (ρ1.set i (.val (.int (a + b))))
    | _ => .bad
  | _ => .bad
theorem sok_aug {i : Nat} {y : Str} {e : Expr} {m : Rho → Res D} {py pos : Pos} (x : XS C k X W) (hy : SetOk X i y) (he : EOk C X W e m) : SOk C X W (.AugAssign (.Name y py) .Add e pos) (augR i m) := by
  intro pa U σ H ρ E r h
  refine semS_of (ps_aug (ti := rI0 fun i j => .int (i + j)) x.xo.nd hy.at_ hy.loc pe_sem (fun pins s σ H x y v u Q I r1 r2 h => iop_add pins s σ H x y v u Q I r1 r2 h) (.inl (x.fn y))) ?_
  unfold augR at h
  cases es : ρ[i]? with
  | none => rw [es] at h; exact h.elim
  | some s =>
    rw [es] at h
    cases s <;> try exact h.elim
    rename_i d0
    cases d0 <;> try exact h.elim
    rename_i a
    obtain ⟨v, ev, rv⟩ := r.slot i _ es
    cases rv
    refine ⟨_, ev, he pa U σ H ρ _ r (h.to fun d ρ1 H1 q h1 u ru => ?_)⟩
    cases d <;> try exact h1.elim
    rename_i b
    exact ⟨a, b, rfl, ru.inv_int, h1 _ H1 (set_dat q.r (.int _))⟩
/-! ### name[e] = e -/
def isSc : D → Bool
  | .int _ => true
  | .bool _ => true
  | _ => false
def stS (s : Sl) (y d : D) : Option Sl := match s, y with
  | .own f xs, .int j => (ixN xs.length j).map fun n => .own f (xs.set n d)
  | .dic f kvs, y => match keyT y with
    | some k => if isSc d = true ∧ kvs.length < 1000000 then some (.dic f (dPut kvs k d)) else none
    | none => none
  | _, _ => none
def stR (i : Nat) (me mi : Rho → Res D) : Rho → SR := fun ρ => (me ρ).to fun d ρ1 => if held i ρ1 then (mi ρ1).to fun y ρ2 => match ρ2[i]? with
  | some s => match stS s y d with
    | some s' => .nx (ρ2.set i s')
    | none => .bad
  | none => .bad else .bad
def rStore (X : Cx) : TSet := fun o i v H Q => rSetL o i v H Q ∨ rDicSet X o i v H Q
theorem set_store (hu : X.A.units + 64 < cLine) : PSet X (rStore X) := by
  intro pins s σ H o i v ov iv u Q I ro ri rv h
  rcases h with h | h
  · exact set_list pins s σ H o i v ov iv u Q I ro ri rv h
  · exact set_dic hu pins s σ H o i v ov iv u Q I ro ri rv h
theorem assign_sub {o i : Expr} {pos : Pos} {env : Env} (h : plainIx i = true) : ∀ v, assign (.Subscript o i pos) env v = (do
      let ov ← holding [v] (eval o env)
      let iv ← holding [v, ov] (eval i env)
      standAt pos
      holding [v, ov, iv] (setItem ov iv v)
      release [v, ov, iv] []) := by
  intro v
  cases i <;> first | rfl | cases h
theorem sc_rpv {K : PySem.W.Frag} {W : AP} {H : Hp} {v : V} {d : D} (h : isSc d = true) (r : Rp K W H v d) : RpV v d := by
  cases r <;> simp only [isSc, Bool.false_eq_true] at h
  · exact .bl _
  · exact .int _
theorem sok_st {i : Nat} {y : Str} {e b : Expr} {me mi : Rho → Res D} {p p2 pos : Pos} (x : XS C k X W) (hv : VarOk X i y) (he : EOk C X W e me) (hb : EOk C X W b mi) (hn : noLc e = true) (hi : plainIx b = true) (ht : isTup e = false) :
    SOk C X W (.Assign [.Subscript (.Name y p) b p2] e pos) (stR i me mi) := by
  intro pa U σ H ρ E r h
  have hu : X.A.units + 64 < cLine := by have := x.xo.room.un; omega
  refine semS_of (ps_asg pe_sem (pg_sub (pe_var hv.at_ hv.vis hv.nd hv.nc) pe_sem (set_store hu) (assign_sub hi)) (show swapsWithSole [.Subscript (.Name y p) b p2] e pos.line X.env = pure false from swaps_no hn (some (.Subscript (.Name y p) b p2)) pos.line X.env) (noSwap_of (by unfold noSwap; rw [ht]; rfl) _) (by rw [assignEach_cons rfl]; rfl)) ?_
  refine he pa U σ H ρ _ r (h.to fun d ρ1 H1 q1 h1 v rv => ?_)
  have hh : held i ρ1 = true := Decidable.byContradiction fun z => by rw [if_neg z] at h1; exact h1.elim
  rw [if_pos hh] at h1
  obtain ⟨ov, eo⟩ := held_val q1.r hh
  refine ⟨ov, eo, ?_⟩
  refine hb pa U σ H1 ρ1 _ q1.r (h1.to fun yd ρ2 H2 q2 h2 vy ry => ?_)
  have rv2 := rv.kp q2.kp
  cases es : ρ2[i]? with
  | none => rw [es] at h2; exact h2.elim
  | some s =>
    rw [es] at h2
    dsimp only at h2
    cases est : stS s yd d with
    | none => rw [est] at h2; exact h2.elim
    | some s' =>
      rw [est] at h2
      have sl := q2.r.slot i s es
      rw [eo] at sl
      cases s with
      | own f xs =>
        cases yd <;> simp only [stS, reduceCtorEq] at est
        rename_i j
        obtain ⟨n, e1, e2⟩ := Option.map_eq_some_iff.mp est
        subst e2
        obtain ⟨p', vs, z1, z2, z3, z4⟩ := sl
        cases z1
        refine .inl ⟨p', vs, j, n, rfl, ry.inv_int, z3, by rw [z4.length]; exact e1, ?_⟩
        refine h2 σ _ (upd_slot q2.r es rfl rfl eo z3 (fun ps z => nomatch z) (fun q z => nomatch z) fun kp => ⟨p', _, rfl, z2, upd_same, (Rps.kp kp z4).set (rv2.kp kp) n⟩)
      | dic f kvs =>
        have est' : (match keyT yd with
          | some k => if isSc d = true ∧ kvs.length < 1000000 then some (Sl.dic f (dPut kvs k d)) else none
          | none => none) = some s' := by cases yd <;> exact est
        split at est'
        · rename_i kk ek
          split at est'
          · rename_i hc
            cases est'
            obtain ⟨p', z1, z2, z3⟩ := sl
            cases z1
            obtain ⟨xs, zz, _⟩ := id z3
            refine .inr ⟨p', Wd U σ ρ2, kvs, yd, kk, d, rfl, z3, ry, ek, sc_rpv hc.1 rv2, hc.2, fun o' ho' nt => ?_⟩
            refine h2 σ _ (upd_slot q2.r es rfl rfl eo zz (fun ps z => nomatch z) (fun q => dicO_ne) fun kp => ⟨p', rfl, z2, ho' _ _ kp upd_same⟩)
          · cases est'
        · cases est'
      | un => cases yd <;> cases est
      | val d0 => cases yd <;> cases est
      | scr ns => cases yd <;> cases est
      | ins f fs => cases yd <;> cases est
/-! ### name.append(e) -/
def isOwnS (i : Nat) (ρ : Rho) : Bool := match ρ[i]? with
  | some (.own _ _) => true
  | _ => false
def appR (i : Nat) (m : Rho → Res D) : Rho → SR := fun ρ => if isOwnS i ρ then (m ρ).to fun d ρ1 => match ρ1[i]? with
  | some (.own f xs) => if xs.length < 1000000 then .nx (ρ1.set i (.own f (xs ++ [d]))) else .bad
  | _ => .bad else .bad
theorem sok_app {i : Nat} {y : Str} {e : Expr} {m : Rho → Res D} {p apos cpos pos : Pos} (xo : XOk C k X W) (hv : VarOk X i y) (he : EOk C X W e m) (hp : plainE e = true) (hl : (apos.endLine == cpos.line) = true) :
    SOk C X W (.Expr (.Call (.Attribute (.Name y p) "append" apos) [e] [] cpos) pos) (appR i m) := by
  intro pa U σ H ρ E r h
  have pt : PA X [e] (tCons (tSem X e) tNil) := pa_cons pe_sem pa_nil (star_of hp _ X.env)
  refine semS_of (ps_expr (pe_bm PySem.F.plainAttrs_list PySem.F.slot_list_append PySem.F.type_list_append mt_append (pe_var hv.at_ hv.vis hv.nd hv.nc) pt rfl (by rw [star_of hp] <;> rfl) hl (star_of hp _ X.env) rfl) rfl) ?_
  unfold appR at h
  have hh : isOwnS i ρ = true := Decidable.byContradiction fun z => by rw [if_neg z] at h; exact h.elim
  rw [if_pos hh] at h
  unfold isOwnS at hh
  split at hh
  · rename_i f xs es
    obtain ⟨p0, vs, z1, z2, z3, z4⟩ := r.slot i _ es
    refine ⟨_, z1, .inl ⟨rfl, vs, SqL.of z3⟩, ?_⟩
    refine he pa U σ H ρ _ r (h.to fun d ρ1 H1 q1 h1 v rv => ?_)
    split at h1
    · rename_i f' xs' es'
      split at h1
      · rename_i hz
        obtain ⟨p1, ws, y1, y2, y3, y4⟩ := q1.r.slot i _ es'
        rw [z1] at y1
        cases y1
        refine ⟨p0, ws, v, rfl, rfl, y3, by rw [y4.length, sizeLine_eq]; omega, ?_⟩
        exact h1 σ _ (upd_slot q1.r es' rfl rfl z1 y3 (fun ps z => nomatch z) (fun q z => nomatch z) fun kp => ⟨p0, _, rfl, y2, upd_same, (Rps.kp kp y4).append (.cons (rv.kp kp) .nil)⟩)
      · exact h1.elim
    · exact h1.elim
  · cases hh
/-! ### loops -/
def forL (p : Pt) (body : Rho → SR) : List D → Rho → SR
  | [], ρ => .nx ρ
  | d :: ds, ρ => match bindP p d ρ with
    | none => .bad
    | some ρ1 => match body ρ1 with
      | .nx ρ2 => forL p body ds ρ2
      | .bk ρ2 => .nx ρ2
      | r => r
def forR (p : Pt) (it : Rho → Res (List D)) (body : Rho → SR) : Rho → SR := fun ρ => (it ρ).to fun ds ρ1 => forL p body ds ρ1
theorem sok_for {p : Pt} {tg iter : Expr} {body : List Stmt} {it : Rho → Res (List D)} {m : Rho → SR} {pos : Pos} (x : XS C k X W) (hi : IOk C X W tg iter it) (hg : TgOk C X p tg) (hb : SsOk C X W body m) (hs : ∀ v, foldedSetIterable iter X.env v = pure v) :
    SOk C X W (.For tg iter body [] pos) (forR p it m) := by
  intro pa U σ H ρ E r h
  obtain ⟨g, pg, hgq⟩ := hg
  refine semS_of (ps_for x.po x.xo.calm pi_sem pg pss_sem hs) ?_
  refine hi pa U σ H ρ _ r (h.to fun ds ρ1 H1 q1 h1 J wk => ?_)
  refine ⟨fun i m' σ' H' => m' = ds.length - i ∧ i ≤ ds.length ∧ ∃ ρi, SqX X C pa U σ H1 ρ1 σ' H' ρi ∧ PostS X C W pa U E σ' H' ρi (forL p m (ds.drop i) ρi), ⟨ds.length, rfl, Nat.zero_le _, ρ1, Sq.refl q1.r, h1⟩, ?_⟩
  rintro i m' σ2 H2 ⟨rfl, hi2, ρi, sq, hp⟩
  rcases Nat.lt_or_ge i ds.length with hlt | hge
  · right
    have hd : ds[i]? = some ds[i] := List.getElem?_eq_getElem hlt
    obtain ⟨hgo, hyld⟩ := wk.go _ _ i _ sq.kp (fun a z => sq.r.wdom z) hd
    refine ⟨hgo, fun σ' H' => ds.length - (i + 1) = ds.length - (i + 1) ∧ i + 1 ≤ ds.length ∧ ∃ ρi, SqX X C pa U σ H1 ρ1 σ' H' ρi ∧ PostS X C W pa U E σ' H' ρi (forL p m (ds.drop (i + 1)) ρi), fun σ' H' z => ⟨_, by omega, z⟩, fun v H3 hy => ?_⟩
    obtain ⟨hex, rv⟩ := hyld v H3 hy
    rw [List.drop_eq_getElem_cons hlt] at hp
    unfold forL at hp
    cases eb : bindP p ds[i] ρi with
    | none => rw [eb] at hp; exact hp.elim
    | some ρb =>
      rw [eb] at hp
      dsimp only at hp
      have q3 := Sq.ex sq.r hex
      refine hgq pa U σ2 H3 ρi v ds[i] ρb _ q3.r eb rv fun σ4 q4 _ => ?_
      refine hb pa U σ4 H3 ρb _ q4.r ?_
      have q5 := q3.trans q4
      cases em : m ρb with
      | nx ρ5 =>
        rw [em] at hp
        exact fun σ' H' q => ⟨rfl, hlt, ρ5, sq.trans (q5.trans q), PostS.shift (X := X) (C := C) hp (q5.trans q)⟩
      | bk ρ5 =>
        rw [em] at hp
        exact fun σ' H' q => hp σ' H' (q5.trans q)
      | rt d ρ5 =>
        rw [em] at hp
        exact fun σ' H' v q => hp σ' H' v (q5.trans q)
      | ex c ρ5 =>
        rw [em] at hp
        exact fun σ' H' q => hp σ' H' (q5.trans q)
      | bad => rw [em] at hp; exact hp.elim
  · left
    have hie : i = ds.length := by omega
    subst hie
    rw [List.drop_length] at hp
    exact ⟨wk.stop _ _ _ sq.kp (Nat.le_refl _), hp σ2 H2 (Sq.refl sq.r)⟩
def whL (c : Rho → Res D) (body : Rho → SR) : Nat → Rho → SR
  | 0, _ => .bad
  | n + 1, ρ => (c ρ).to fun x ρ1 => match x with
    | .bool true => match body ρ1 with
      | .nx ρ2 => whL c body n ρ2
      | .bk ρ2 => .nx ρ2
      | r => r
    | .bool false => .nx ρ1
    | _ => .bad
theorem sok_while {c : Expr} {body : List Stmt} {l : Rho → Res D} {m : Rho → SR} {n : Nat} {pos : Pos} (x : XS C k X W) (hc : TOk C X W c l) (hb : SsOk C X W body m) : SOk C X W (.While c body [] pos) (whL l m n) := by
  intro pa U σ H ρ E r h
  refine semS_of (ps_while x.po pt_sem pss_sem) ?_
  refine ⟨fun j σ' H' => ∃ ρj, SqX X C pa U σ H ρ σ' H' ρj ∧ PostS X C W pa U E σ' H' ρj (whL l m j ρj), ⟨n, ρ, Sq.refl r, h⟩, ?_⟩
  rintro j σ2 H2 ⟨ρj, sq, hp⟩
  cases j with
  | zero => exact hp.elim
  | succ j =>
    unfold whL at hp
    refine hc pa U σ2 H2 ρj _ sq.r (hp.to fun d ρ1 H1 q1 h1 => ?_)
    split at h1
    · refine ⟨true, rfl, ?_⟩
      rw [if_pos rfl]
      refine ⟨fun σ' H' => ∃ ρj, SqX X C pa U σ H ρ σ' H' ρj ∧ PostS X C W pa U E σ' H' ρj (whL l m j ρj), fun σ' H' z => ⟨j, Nat.lt_succ_self j, z⟩, ?_⟩
      refine hb pa U σ2 H1 ρ1 _ q1.r ?_
      cases em : m ρ1 with
      | nx ρ5 =>
        rw [em] at h1
        exact fun σ' H' q => ⟨ρ5, sq.trans (q1.trans q), PostS.shift (X := X) (C := C) h1 q⟩
      | bk ρ5 =>
        rw [em] at h1
        exact fun σ' H' q => h1 σ' H' q
      | rt d ρ5 =>
        rw [em] at h1
        exact fun σ' H' v q => h1 σ' H' v q
      | ex c ρ5 =>
        rw [em] at h1
        exact fun σ' H' q => h1 σ' H' q
      | bad => rw [em] at h1; exact h1.elim
    · refine ⟨false, rfl, ?_⟩
      rw [if_neg Bool.false_ne_true]
      exact h1 σ2 H1 (Sq.refl q1.r)
    · exact h1.elim
end
end Dm
namespace Dm
open PySem PySem.Spec PyProof.Rows L2 LamX
/-! ### a def, by its body -/
def out1 (s t : Sl) : Option Sl := match s, t with
  | .own _ _, .own true ys => some (.own true ys)
  | .dic _ _, .dic true ys => some (.dic true ys)
  | .ins _ _, .ins true ys => some (.ins true ys)
  | .own _ _, _ => none
  | .dic _ _, _ => none
  | .ins _ _, _ => none
  | _, _ => some .un
def outsL : List Sl → Rho → Option (List Sl)
  | [], _ => some []
  | s :: ss, t :: ρ => match out1 s t, outsL ss ρ with
    | some u, some us => some (u :: us)
    | _, _ => none
  | _ :: _, [] => none
def runF (L : Nat) (m : Rho → SR) (ss : List Sl) : Res D := match m (ss ++ List.replicate (L - ss.length) .un) with
  | .nx ρ => match outsL ss ρ with
    | some us => .ok .none us
    | none => .bad
  | .rt d ρ => match outsL ss ρ with
    | some us => .ok d us
    | none => .bad
  | .ex c ρ => match outsL ss ρ with
    | some us => .exc c us
    | none => .bad
  | _ => .bad
theorem outsL_get : ∀ {ss : List Sl} {ρ us : List Sl}, outsL ss ρ = some us → us.length = ss.length ∧ ∀ (i : Nat) u, us[i]? = some u → ∃ s t, ss[i]? = some s ∧ ρ[i]? = some t ∧ out1 s t = some u
  | [], ρ, us, h => by
    simp only [outsL, Option.some.injEq] at h
    subst h
    exact ⟨rfl, fun i u e => by simp at e⟩
  | s :: ss, [], us, h => by simp [outsL] at h
  | s :: ss, t :: ρ, us, h => by
    simp only [outsL] at h
    split at h
    · rename_i u us' e1 e2
      cases h
      obtain ⟨h1, h2⟩ := outsL_get e2
      refine ⟨by simp [h1], fun i v e => ?_⟩
      cases i with
      | zero => simp at e; subst e; exact ⟨s, t, rfl, rfl, e1⟩
      | succ i => simpa using h2 i v (by simpa using e)
    · cases h
theorem out1_isO {s t u : Sl} (h : out1 s t = some u) (o : u.isO = true) : t = u ∧ s.isO = true ∧ u.fx = true := by
  cases s <;> cases t <;> simp only [out1, Option.some.injEq, reduceCtorEq] at h <;> first
    | (subst h; cases o; done)
    | (rename_i f1 _ f2 _; cases f2 <;> simp only [Option.some.injEq, reduceCtorEq] at h <;> subst h <;> exact ⟨rfl, rfl, rfl⟩)
section
variable {P : Program} {w : World} {K : PySem.W.Frag} {C : Cxt} {pa : Nat → Addr} {U : AP} {H : Hp}
theorem pad_get {ss : List Sl} {n i : Nat} {s : Sl} (h : (ss ++ List.replicate n Sl.un)[i]? = some s) (o : s ≠ .un) : ss[i]? = some s ∧ i < ss.length := by
  by_cases hi : i < ss.length
  · rw [List.getElem?_append_left hi] at h
    exact ⟨h, hi⟩
  · rw [List.getElem?_append_right (by omega), List.getElem?_replicate] at h
    split at h
    · cases h; exact absurd rfl o
    · cases h
theorem R.pad {N : List Str} {vs : List V} {ss : List Sl} (hl : vs.length ≤ N.length) (r : R P w K C pa U (vs.map some) H ss) : R P w K C pa U (L2.start N vs) H (ss ++ List.replicate (N.length - ss.length) .un) ∧
    ∀ a, (Own (L2.start N vs) (ss ++ List.replicate (N.length - ss.length) .un) a ↔ Own (vs.map some) ss a) := by
  have hsl : vs.length = ss.length := by have := r.len; rwa [List.length_map] at this
  have at_ : ∀ i, i < vs.length → (L2.start N vs)[i]? = (vs.map some)[i]? := fun i hi => by
    unfold L2.start
    rw [List.getElem?_append_left (by simpa using hi)]
  have own : ∀ i a, OwnAt (L2.start N vs) (ss ++ List.replicate (N.length - ss.length) .un) i a ↔ OwnAt (vs.map some) ss i a := fun i a => by
    constructor
    · rintro ⟨s, h1, h2, h3⟩
      obtain ⟨g1, g2⟩ := pad_get h1 (fun z => by subst z; cases h2)
      exact ⟨s, g1, h2, by rw [← at_ i (by omega)]; exact h3⟩
    · rintro ⟨s, h1, h2, h3⟩
      have hi : i < ss.length := (List.getElem?_eq_some_iff.mp h1).1
      exact ⟨s, by rw [List.getElem?_append_left hi]; exact h1, h2, by rw [at_ i (by omega)]; exact h3⟩
  have ownE : ∀ a, (Own (L2.start N vs) (ss ++ List.replicate (N.length - ss.length) .un) a ↔ Own (vs.map some) ss a) := fun a => ⟨fun ⟨i, h⟩ => ⟨i, (own i a).mp h⟩, fun ⟨i, h⟩ => ⟨i, (own i a).mpr h⟩⟩
  have wd : ∀ a, Wd U (L2.start N vs) (ss ++ List.replicate (N.length - ss.length) .un) a → Wd U (vs.map some) ss a := fun a h => h.elim .inl fun z => .inr ((ownE a).mp z)
  refine ⟨⟨?_, r.dom, r.tabs, fun a z => r.out a ((ownE a).mp z), fun i j a h1 h2 => r.apart i j a ((own i a).mp h1) ((own j a).mp h2), fun i s hi => ?_⟩, ownE⟩
  · unfold L2.start
    rw [List.length_append, List.length_append, List.length_map, List.length_replicate, List.length_replicate]
    omega
  · by_cases hs : s = .un
    · subst hs; trivial
    · obtain ⟨g1, g2⟩ := pad_get hi hs
      rw [at_ i (by omega)]
      exact (r.slot i s g1).kp (Kp.less wd) fun p o _ _ q => q
/-- back out of the def -/
theorem sq_out {N : List Str} {vs : List V} {ss us : List Sl} {σ' : St} {H' : Hp} {ρ' : Rho} (hl : vs.length ≤ N.length) (r : R P w K C pa U (vs.map some) H ss) (hfx : ∀ s ∈ ss, s.isO = true → s.fx = true)
    (q : Sq P w K C pa U (L2.start N vs) H (ss ++ List.replicate (N.length - ss.length) .un) σ' H' ρ') (ho : outsL ss ρ' = some us) :
    Sq P w K C pa U (vs.map some) H ss (vs.map some) H' us ∧ (∀ (i : Nat) s', us[i]? = some s' → s'.isO = true → ∃ s, ss[i]? = some s ∧ s.isO = true) ∧ ∀ v d, Rp K (Wd U σ' ρ') H' v d → Rp K (Wd U (vs.map some) us) H' v d := by
  obtain ⟨o1, o2⟩ := outsL_get ho
  obtain ⟨rp, ownE⟩ := R.pad hl r
  -- an own slot left behind: the argument's own cell
  have cell : ∀ (i : Nat) (u : Sl), us[i]? = some u → u.isO = true → ρ'[i]? = some u ∧ σ'[i]? = some (some (.ref (pa i))) ∧ (vs.map some)[i]? = some (some (.ref (pa i))) ∧ ∃ s, ss[i]? = some s ∧ s.isO = true := by
    intro i u hi hu
    obtain ⟨s, t, e1, e2, e3⟩ := o2 i u hi
    obtain ⟨rfl, hs, hf⟩ := out1_isO e3 hu
    have sl := q.r.slot i t e2
    have sl0 := r.slot i s e1
    have f0 := hfx s (List.mem_of_getElem? e1) hs
    refine ⟨e2, ?_, ?_, s, e1, hs⟩
    · cases t <;> first | cases hu | skip
      · obtain ⟨p, _, z1, z2, _⟩ := sl; rw [z1, z2 hf]
      · obtain ⟨p, z1, z2, _⟩ := sl; rw [z1, z2 hf]
      · obtain ⟨p, _, _, z1, z2, _⟩ := sl; rw [z1, z2 hf]
    · cases s <;> first | cases hs | skip
      · obtain ⟨p, _, z1, z2, _⟩ := sl0; rw [z1, z2 f0]
      · obtain ⟨p, z1, z2, _⟩ := sl0; rw [z1, z2 f0]
      · obtain ⟨p, _, _, z1, z2, _⟩ := sl0; rw [z1, z2 f0]
  have own : ∀ i a, OwnAt (vs.map some) us i a → OwnAt σ' ρ' i a := by
    rintro i a ⟨u, h1, h2, h3⟩
    obtain ⟨c1, c2, c3, _⟩ := cell i u h1 h2
    rw [c3] at h3
    cases h3
    exact ⟨u, c1, h2, c2⟩
  have wd : ∀ a, Wd U (vs.map some) us a → Wd U σ' ρ' a := fun a h => h.elim .inl fun ⟨i, z⟩ => .inr ⟨i, own i a z⟩
  refine ⟨⟨⟨by rw [o1]; exact r.len, q.r.dom, q.r.tabs, fun a ⟨i, z⟩ => q.r.out a ⟨i, own i a z⟩, fun i j a h1 h2 => q.r.apart i j a (own i a h1) (own j a h2), fun i u hi => ?_⟩, ⟨fun a o e n t => q.gr.keep a o e (fun z => n ((ownE a).mp z)) t, q.gr.dom⟩, fun a ⟨i, z⟩ => (q.sub a ⟨i, own i a z⟩).elim (fun z => .inl ((ownE a).mp z)) .inr⟩, fun i s' h1 h2 => (cell i s' h1 h2).2.2.2, fun v d h => h.kp (Kp.less wd)⟩
  cases hu : u.isO with
  | true =>
    obtain ⟨c1, c2, c3, _⟩ := cell i u hi hu
    have sl := q.r.slot i u c1
    rw [c2] at sl
    rw [c3]
    exact sl.kp (Kp.less wd) fun p o _ _ z => z
  | false =>
    obtain ⟨s, t, e1, e2, e3⟩ := o2 i u hi
    have : u = .un := by
      cases s <;> cases t <;> simp only [out1, Option.some.injEq, reduceCtorEq] at e3 <;> first
        | exact e3.symm
        | (rename_i f1 _ f2 _; cases f2 <;> simp only [Option.some.injEq, reduceCtorEq] at e3 <;> subst e3 <;> cases hu)
    subst this
    trivial
end
/-- the text's names for built-ins are free -/
structure Frees (mg : Str → Option Value) : Prop where
  bt : ∀ b : Bt, mg b.name = none
  ty : ∀ t : Ty, mg t.name = none
  isi : mg "isinstance" = none
  rng : mg "range" = none
  enm : mg "enumerate" = none
  rev : mg "reversed" = none
  st : mg "set" = none
/-- a def's contexts -/
structure XF (C : Cxt) (k : Nat) (X : Cx) (W : XW) (P : Program) (w : World) (K : PySem.W.Frag) (mg : Str → Option Value) (base : Heap) (N : List Str) (scope : Scope) (fa : Addr) (qual : Str) : Prop where
  xs : XS C k X W
  prog : X.prog = P
  w : X.w = w
  K : X.K = K
  mg : X.mg = mg
  base : X.base = base
  N : X.N = N
  sc : X.env.scope = scope
  rm : Room (k + 3) X.A
  cd : ∀ p, He.fAd X.K p = fa → X.env.code = .ref (He.codeOf X.K p)
  q : X.env.qual = (envOfC qual scope 0 0 .none).qual
theorem fun_ok {P : Program} {w : World} {K : PySem.W.Frag} {mg : Str → Option Value} {base : Heap} {C : Cxt} {k : Nat} {nm x qual : Str} {params : Arguments} {body : List Stmt} {scope : Scope} {f : Addr} {fd : FuncData} {N ps : List Str} {kws : List (Str × V)} {m : Rho → SR}
    (F : FunD K x qual params body scope [] kws f fd) (S : FnScope N ps scope) (fr : Frees mg) (hb : ∀ X W, XF C k X W P w K mg base N scope f qual → SsOk C X W body m) :
    FnOk P w K mg base (L2N.CX P w) (k + 3 + 1) f fd ps (spOf P w K C ⟨nm, ps.length, runF N.length m⟩) := by
  have hpl : ps.length ≤ N.length := by have := congrArg List.length S.pre; rw [List.length_take] at this; omega
  obtain ⟨oc, od, dV, kV, doc, pm, an, cdv, ct, osl, rfl, lk, hcd, _, _⟩ := F.ex
  refine fn_of lk hcd S (fun vs H Q E h => h.1) (fun A outer s H vs Q E hr3 h => ?_)
  have hr : Room k _ := hr3.mono (by omega)
  obtain ⟨hlen, pa, U, ss, hfx, r, h⟩ := h
  have hlen : vs.length = ps.length := hlen
  refine ⟨ssSem _ body, pss_sem, ?_⟩
  obtain ⟨rp, _⟩ := R.pad (N := N) (by omega) r
  have tk := L2N.takes_of (X := cxOf (L2N.CX P w) P w K mg base N qual scope f cdv A outer s H E) (E := E) rfl rfl rfl rfl
  have X0 : XF C k (cxOf (L2N.CX P w) P w K mg base N qual scope f cdv A outer s H E) (fun c _ H' => E (.ref (C.exa c)) none H') P w K mg base N scope f qual :=
    ⟨⟨⟨rfl, S.nd, hr, fr.bt, fr.ty, fr.isi, fr.rng, fr.enm, fr.rev, fr.st, tk.imp fun cls d σ H' ⟨e, c, e2, z⟩ => by subst e e2; exact z⟩, fun _ => rfl, passes_of rfl, S.kind⟩, rfl, rfl, rfl, rfl, rfl, rfl, rfl, hr3, fun p hp => by
      obtain ⟨cc, hcc⟩ := He.codeIn_ref hcd
      rw [He.codeOf_eq (p := p) (by rw [hp]; exact lk) hcc]
      exact hcc, rfl⟩
  refine hb _ _ X0 pa U (L2.start N vs) H _ _ rp ?_
  have h : match runF N.length m ss with
    | .ok d ss' => ∀ v H', Sq P w K C pa U (vs.map some) H ss (vs.map some) H' ss' → (∀ (i : Nat) s', ss'[i]? = some s' → s'.isO = true → ∃ s, ss[i]? = some s ∧ s.isO = true) → Rp K (Wd U (vs.map some) ss') H' v d → Q v H'
    | .exc c ss' => ∀ H', Sq P w K C pa U (vs.map some) H ss (vs.map some) H' ss' → (∀ (i : Nat) s', ss'[i]? = some s' → s'.isO = true → ∃ s, ss[i]? = some s ∧ s.isO = true) → E (.ref (C.exa c)) none H'
    | .bad => False := h
  unfold runF at h
  cases em : m (ss ++ List.replicate (N.length - ss.length) .un) with
  | nx ρ' =>
    rw [em] at h
    dsimp only at h
    cases eo : outsL ss ρ' with
    | none => rw [eo] at h; exact h.elim
    | some us =>
      rw [eo] at h
      intro σ' H' q
      obtain ⟨q1, q2, q3⟩ := sq_out (by omega) r hfx q eo
      exact h .non H' q1 q2 .non
  | rt d ρ' =>
    rw [em] at h
    dsimp only at h
    cases eo : outsL ss ρ' with
    | none => rw [eo] at h; exact h.elim
    | some us =>
      rw [eo] at h
      intro σ' H' v q rv
      obtain ⟨q1, q2, q3⟩ := sq_out (by omega) r hfx q eo
      exact h v H' q1 q2 (q3 v d rv)
  | ex c ρ' =>
    rw [em] at h
    dsimp only at h
    cases eo : outsL ss ρ' with
    | none => rw [eo] at h; exact h.elim
    | some us =>
      rw [eo] at h
      intro σ' H' q
      obtain ⟨q1, q2, q3⟩ := sq_out (by omega) r hfx q eo
      exact h H' q1 q2
  | bk ρ' => rw [em] at h; exact h.elim
  | bad => rw [em] at h; exact h.elim
end Dm
namespace HT
open PySem PyProof.Rows
section
open PySem.SeqAt
open PySem.MeetsSeq PySem.MeetsSeq2 PySem.MeetsSeq3
variable {prog : Program} {w : World} {A : Around} {E : Value → Shared → Prop} {s : Shared}
theorem places_rev (n : Nat) : Builtin.Slice.slicePlaces ((n : Int) - 1) (-1) (-1) = n := by
  unfold Builtin.Slice.slicePlaces
  have h1 : ¬ ((-1 : Int) > 0) := by omega
  rw [if_neg h1]
  by_cases h : (n : Int) - 1 > -1
  · rw [if_pos h]
    have : ((n : Int) - 1 - -1 - 1) / (- -1) + 1 = n := by simp
    rw [this]; simp
  · rw [if_neg h]; simp; omega
theorem adjust_rev (n : Nat) : Builtin.Slice.sliceAdjust none none (-1) (n : Int) = ((n : Int) - 1, -1) := rfl
theorem sliceApplied_rev {sl : Addr} {vl vu vs : Value} {n : Nat} {Q : Int × Int × Nat → Shared → Prop} (hs : s.heap.IsSliceOf sl vl vu vs) (pl : IsPart vl none) (pu : IsPart vu none) (ps : IsPart vs (some (-1)))
    (h : Q ((n : Int) - 1, -1, n) s) : wpAny (model prog w) A (Builtin.Slice.sliceApplied (.ref sl) (pure (n : Int))) Q E s := by
  obtain ⟨os, hos, hcs, hds⟩ := id hs
  unfold Builtin.Slice.sliceApplied Builtin.Slice.sliceFields
  refine wpAny_bind (wpAny_bind (wpAny_field hos hds (x := vl) rfl (wpAny_bind (wpAny_field hos hds (x := vu) rfl (wpAny_bind (wpAny_field hos hds (x := vs) rfl (wpAny_pure ?_)))))))
  refine wpAny_bind (slicePart_ ps ?_)
  show wpAny _ _ (if ((-1 : Int) == 0) = true then _ else _) _ _ s
  rw [if_neg (by decide)]
  refine wpAny_bind (slicePart_ pl (wpAny_bind (slicePart_ pu (wpAny_bind (wpAny_pure ?_)))))
  show wpAny _ _ (match Builtin.Slice.sliceAdjust none none (-1) (n : Int) with | (lo, hi) => pure (lo, (-1 : Int), Builtin.Slice.slicePlaces lo hi (-1))) _ _ s
  rw [adjust_rev n]
  show wpAny _ _ (pure ((n : Int) - 1, (-1 : Int), Builtin.Slice.slicePlaces ((n : Int) - 1) (-1) (-1))) _ _ s
  rw [places_rev]
  exact wpAny_pure h
theorem fmap_congr {α β : Type} {f g : α → Option β} : ∀ {l : List α}, (∀ x ∈ l, f x = g x) → l.filterMap f = l.filterMap g
  | [], _ => rfl
  | x :: l, h => by
    have ih := fmap_congr (l := l) fun y hy => h y (List.mem_cons_of_mem _ hy)
    rw [List.filterMap_cons, List.filterMap_cons, h x List.mem_cons_self, ih]
theorem pick_rev (xs : Array Value) : ((List.range xs.size).filterMap fun (m : Nat) => xs[(((xs.size : Int) - 1) + (m : Int) * (-1)).toNat]?).toArray = xs.toList.reverse.toArray := by
  have hl : xs.toList.length = xs.size := Array.length_toList
  have : ∀ m ∈ List.range xs.size, xs[(((xs.size : Int) - 1) + (m : Int) * (-1)).toNat]? = (some ∘ fun m => xs.toList.reverse.getD m Value.none) m := by
    intro m hm
    have hm := List.mem_range.mp hm
    have e : (((xs.size : Int) - 1) + (m : Int) * (-1)).toNat = xs.size - 1 - m := by omega
    rw [e, ← Array.getElem?_toList]
    show _ = some (xs.toList.reverse.getD m Value.none)
    rw [List.getD_eq_getElem?_getD, List.getElem?_reverse (by omega), hl]
    rw [List.getElem?_eq_getElem (by omega)]; rfl
  rw [fmap_congr this, List.filterMap_eq_map]
  congr 1
  apply List.ext_getElem?
  intro i
  by_cases h : i < xs.size
  · rw [List.getElem?_map, List.getElem?_range h, Option.map_some, List.getD_eq_getElem?_getD]
    rw [List.getElem?_eq_getElem (by simpa using h)]; rfl
  · rw [List.getElem?_eq_none (by simpa using h), List.getElem?_eq_none (by simpa using h)]
theorem getItem_tuple_rev {t sl : Addr} {items : Array Value} {vl vu vs : Value} {Q : Value → Shared → Prop} (ht : IsTup s.heap t items) (hs : s.heap.IsSliceOf sl vl vu vs) (pl : IsPart vl none) (pu : IsPart vu none) (ps : IsPart vs (some (-1)))
    (h : Q (.ref s.heap.objs.size) { s with heap := s.heap.push { cls := .type "tuple", data := .seq items.toList.reverse.toArray } })
    (hsz : items.size ≤ sizeLine) : wpAny (model prog w) A (getItem (.ref t) (.ref sl)) Q E s := by
  have htake : sizeOk (.seq items.toList.reverse.toArray) := by
    show items.toList.reverse.toArray.size ≤ sizeLine
    rw [List.size_toArray, List.length_reverse, Array.length_toList]
    exact hsz
  obtain ⟨os, hos, hcs, hds⟩ := id hs
  have hTs : s.TypeIs (.ref sl) "slice" := ⟨os, hos, hcs⟩
  unfold getItem
  try with_reducible refine wpAny_holding ?_
  first | refine wpAny_bind (wpAny_pure ?_) | skip
  refine wpAny_bind (wpAny_sequenceKey ht.typeIs (by decide) ?_)
  refine wpAny_bind (wpAny_callSpecial?_slot (name := Str.ofString "__getitem__") ht.typeIs PyProof.Rows.slot_tuple_getitem
    (wpAny_call_entry PyProof.Rows.slot_tuple_getitem ht.typeIs entry_tuple_getitem ?_ (args_tuple_getitem _ _)))
  show wpAny _ _ (Builtin.Tuple.tupleItemsOf (.ref t) >>= _) _ _ s
  refine wpAny_bind (tupleItemsOf_ ht ?_)
  refine wpAny_bind (wpAny_typeOf hTs ?_)
  rw [if_pos (by decide)]
  refine wpAny_bind (sliceApplied_rev hs pl pu ps ?_)
  have hno : ¬ ((((items.size : Int) - 1) == 0 && (-1 : Int) == 1 && items.size == items.size) = true) := by
    intro q
    rw [Bool.and_eq_true, Bool.and_eq_true] at q
    exact absurd q.1.2 (by decide)
  show wpAny _ _ (if (((items.size : Int) - 1) == 0 && (-1 : Int) == 1 && items.size == items.size) = true then _ else _) _ _ s
  rw [if_neg hno, pick_rev]
  first
    | exact wpAny_bind (m := Builtin.Tuple.tupleExact _) (wpAny_newObj_type (wpAny_pure ⟨_, rfl, wpAny_pure h⟩) htake)
    | exact wpAny_bind (m := Builtin.Tuple.tupleExact _) (wpAny_newObj_type (wpAny_bind (wpAny_pure (wpAny_pure ⟨_, rfl, wpAny_pure h⟩))) htake)
    | exact wpAny_bind (wpAny_bind (m := Builtin.Tuple.tupleExact _) (wpAny_newObj_type (wpAny_pure (wpAny_pure ⟨_, rfl, wpAny_pure h⟩)) htake))
    | exact wpAny_bind (wpAny_bind (m := Builtin.Tuple.tupleExact _) (wpAny_newObj_type (wpAny_pure ⟨_, rfl, wpAny_pure h⟩) htake))
end
end HT
namespace L2
open PySem PySem.Spec PyProof.Rows
/-! ### t[::-1] -/
def tRevT (K : PySem.W.Frag) (te : TE) : TE := fun σ H Q => te σ H fun x H1 => ∃ a xs, x = .ref a ∧ SqT K H1 a xs ∧ ∀ p, H1 p = none → Q (.ref p) (upd H1 p (.tup xs.reverse))
section
variable {X : Cx}
theorem pe_revT {e : Expr} {te : TE} {k : Nat} {p1 p2 p3 pos : Pos} (he : PE X e te) : PE X (.Subscript e (.Slice none none (some (.UnaryOp .USub (.Constant (.int 1) k p1) p2)) p3) pos) (tRevT X.K te) := by
  refine ⟨fun pins s σ H Q I h => ?_⟩
  refine Subscript_ (thn (he.run pins s σ H _ I h) fun v s1 ⟨x, H1, I1, r1, q1⟩ => ?_)
  obtain ⟨a, xs, ex, hx, q⟩ := q1
  subst ex
  cases r1
  have hst : PO X (some (.UnaryOp .USub (.Constant (.int 1) k p1) p2)) (tPart (tUn (rU fun i => .int (-i)) (tC (.int 1)))) := po_some (pe_un un_neg pe_int)
  refine wpAny_Slice (thn (po_none.run pins s1 σ H1 (fun o H2 => o = none ∧ H2 = H1) I1 ⟨rfl, rfl⟩) fun vl s2 ⟨l, H2, I2, pl, el, e2⟩ => ?_)
  subst el e2
  refine thn (po_none.run pins s2 σ H2 (fun o H3 => o = none ∧ H3 = H2) I2 ⟨rfl, rfl⟩) fun vu s3 ⟨u, H3, I3, pu, eu, e3⟩ => ?_
  subst eu e3
  refine thn (hst.run pins s3 σ H3 (fun o H4 => o = some (-1) ∧ H4 = H3) I3 ⟨1, rfl, -1, rfl, rfl, rfl⟩) fun vs s4 ⟨o, H4, I4, ps, eo, e4⟩ => ?_
  subst eo e4
  have I5 : Inv X pins σ H4 { s4 with heap := s4.heap.push { cls := .type "slice", data := .fields #[vl, vu, vs] } } := I4.kept (t' := s4.toks) fun b ob q => Heap.get?_push_of_some _ q
  obtain ⟨its, r, ht, hz⟩ := I5.tuple hx
  have hlen := r.length
  show wpAny (model X.prog X.w) X.A (subscriptTail e (.Slice none none (some (.UnaryOp .USub (.Constant (.int 1) k p1) p2)) p3) (.ref a) (.ref s4.heap.objs.size)) (EP X pins σ Q) X.xe { s4 with heap := s4.heap.push { cls := .type "slice", data := .fields #[vl, vu, vs] } }
  refine tail_any (ops := [.ref a, .ref s4.heap.objs.size]) ht.typeIs (PyProof.Rows.slot_tuple_getitem.lookup) ?_ (by with_unfolding_all rfl)
  refine HT.getItem_tuple_rev ht (Heap.IsSliceOf.new _ vl vu vs) pl pu ps ?_ (by rw [List.size_toArray]; omega)
  refine ⟨.ref _, _, I5.laid (t' := s4.toks) (o := .tup xs.reverse) (fun b ob q => Heap.get?_push_of_some _ q) (Nat.le_refl _) ?_, rfl, q _ (I5.hok.fresh (Nat.le_refl _))⟩
  exact ⟨by rw [List.length_reverse]; exact hz, _, r.reverse, IsTup.new _ _⟩
end
end L2
namespace L2
open PySem PySem.Spec PyProof.Rows
section
variable {P : Program} {w : World} {A : Around} {E : Value → Shared → Prop} {s : Shared}
theorem call_set_tupsT {l : Addr} {items : Array Value} (ks : List (Addr × List Int)) {Q : Value → Shared → Prop} (hh : A.handled = none) (hl : s.heap.IsTuple l items) (hit : items.toList = ks.map fun p => Value.ref p.1)
    (hk : ∀ p ∈ ks, IsT P w s.heap p.2 p.1) (hfew : ks.length < 64) (hu : A.units + 3 < cLine)
    (h : ∀ (h' : Heap) (tk : Nat) L es ep t, SetTR P w h' s.heap.objs.size L es ep t → Got ks ks.length L → (∀ b o, s.heap.get? b = some o → h'.get? b = some o) → Q (.ref s.heap.objs.size) { s with heap := h', toks := tk }) :
    wpAny (model P w) A (call (.type "set") [.ref l]) Q E s := by
  have hisz : items.size = ks.length := by
    have q := congrArg List.length hit
    rw [Array.length_toList, List.length_map] at q
    exact q
  obtain ⟨c, tl, hmro⟩ := F.called_set.mro
  have hmade := F.called_set.made
  have hsub := F.called_set.sub
  refine wpAny_call (codeAny_of_tree ?_)
  show wpAny _ _ (callAny (.type "set") _) _ _ _
  refine wpAny_pure ⟨Code.quiet_builtin _ (by decide +kernel), codeAny_builtin F.entry_type_call ?_⟩
  rw [Around.under_plain (weight_type_call_type "set" [.ref l] []) rfl]
  have h1 := F.called_set.notType
  have h2 := F.called_set.canCreate
  have hct := F.typeCall_set_1 (.ref l)
  repeat (any_goals (first | assumption | wp_step))

  refine codeAny_mono (code_set_led1 (.ref l) (E := E) (Q₁ := fun obj s₁ => obj = .ref s.heap.objs.size ∧ s₁ = { s with heap := s.heap.push { cls := .type "set", dict := none, data := .set #[] 0 (.fresh 0 0 (!w.params.followText "set-order")) } }) ⟨rfl, rfl⟩) fun r s₁ hr => ?_
  cases r with
  | error e => exact hr
  | ok fl =>
    cases fl with
    | ret obj =>
      obtain ⟨rfl, rfl⟩ := hr
      have hS : (s.heap.push { cls := .type "set", dict := none, data := .set #[] 0 (.fresh 0 0 (!w.params.followText "set-order")) }).get? s.heap.objs.size = some { cls := .type "set", dict := none, data := .set #[] 0 (.fresh 0 0 (!w.params.followText "set-order")) } := Heap.get?_push_size _ rfl
      have hT : Shared.TypeIs { s with heap := s.heap.push { cls := .type "set", dict := none, data := .set #[] 0 (.fresh 0 0 (!w.params.followText "set-order")) } } (.ref s.heap.objs.size) "set" := ⟨_, hS, rfl⟩
      have hli := F.called_set.init.lookup
      have hbi := F.called_set.init.bind (.ref s.heap.objs.size)
      repeat (any_goals (first | assumption | wp_step))

      refine codeAny_mono (codeAny_call_builtin (R := wants (fun r s₂ => r = .none ∧ ∃ h' tk L es ep t, s₂ = { s with heap := h', toks := tk } ∧ SetTR P w h' s.heap.objs.size L es ep t ∧ Got ks ks.length L ∧
          (∀ b o, s.heap.get? b = some o → h'.get? b = some o)) E) F.called_set.init.plain F.entry_set_init (check_set_init_1 hT ?_)) fun r₂ s₂ hr₂ => ?_
      · obtain ⟨ol, hol, hcl, nl, hdl⟩ := hl
        obtain ⟨ocls, odict, odata, oslots⟩ := ol
        simp only at hcl hdl
        subst hcl; subst hdl
        have hol' : (s.heap.push { cls := .type "set", dict := none, data := .set #[] 0 (.fresh 0 0 (!w.params.followText "set-order")) }).get? l = some { cls := .type "tuple", dict := odict, data := .seq items nl, slots := oslots } := Heap.get?_push_of_some _ hol
        have hsls := F.sub_tuple_set
        have hslf := F.sub_tuple_frozenset
        have hne : (Value.type "list" == Value.type "dict") = false := by decide
        have hl1 : (s.heap.push { cls := .type "set", dict := none, data := .set #[] 0 (.fresh 0 0 (!w.params.followText "set-order")) }).IsTuple l items := ⟨_, hol', rfl, nl, rfl⟩
        unfold Builtin.«set.__init__» noKeywords Builtin.Frozenset.updateFrom
        generalize hPI : pyIter = PI
        wp_walk
        subst hPI

        refine wpAny_pyIter_tuple hl1 ?_
        refine wpAny_bind (wpAny_runValue ?_)
        have hlS : l < s.heap.objs.size := Heap.lt_size hol
        have hh3 : A.in1.in1.in1.handled = none := by simp [hh]
        have hz1 : (s.heap.push { cls := .type "set", dict := none, data := .set #[] 0 (.fresh 0 0 (!w.params.followText "set-order")) }).objs.size = s.heap.objs.size + 1 := Heap.size_push ..
        have hneI : l ≠ (s.heap.push { cls := .type "set", dict := none, data := .set #[] 0 (.fresh 0 0 (!w.params.followText "set-order")) }).objs.size := by
          rw [Heap.size_push]; exact Nat.ne_of_lt (Nat.lt_succ_of_lt hlS)
        have hSf : s.heap.objs.size ∉ [(s.heap.push { cls := .type "set", dict := none, data := .set #[] 0 (.fresh 0 0 (!w.params.followText "set-order")) }).objs.size, l] := by
          rw [Heap.size_push]; simp only [List.mem_cons, List.mem_singleton, List.not_mem_nil, or_false, not_or]
          exact ⟨Nat.ne_of_lt (Nat.lt_succ_self _), Nat.ne_of_gt hlS⟩
        have hval : ∀ (i : Nat) (v : Value), items[i]? = some v → ∃ p, ks[i]? = some p ∧ v = .ref p.1 := fun i v hv => by
          have q : items.toList[i]? = some v := by rw [Array.getElem?_toList]; exact hv
          rw [hit, List.getElem?_map] at q
          cases hq : ks[i]? with
          | none => rw [hq] at q; cases q
          | some p =>
            rw [hq] at q
            exact ⟨p, rfl, (Option.some.inj q).symm⟩
        have none_of : ∀ b, s.heap.objs.size ≤ b → s.heap.get? b = none := fun b hb => by
          cases q : s.heap.get? b with
          | none => rfl
          | some o => exact absurd (Nat.lt_of_lt_of_le (Heap.lt_size q) hb) (Nat.lt_irrefl _)
        refine set_update_tups ((Walks.tuple hh3 _ l hneI items).toS) s.heap.objs.size
          hSf ks hisz hfew hval s.heap hk (none_of _ (Nat.le_refl _)) (fun b hb => none_of b (by
            rw [List.mem_singleton.mp hb, Heap.size_push]
            exact Nat.le_succ _)) hu (items.size - 0) 0 _ (by omega) (Nat.zero_le _)
          ⟨⟨_, Heap.get?_push_size _ rfl, rfl, rfl⟩, (hl1.push _)⟩ (fun b o e => Heap.get?_push_of_some _ (Heap.get?_push_of_some _ e)) ?hS0 ?hR
        case hS0 =>
          have hget : ((s.heap.push { cls := .type "set", dict := none, data := .set #[] 0 (.fresh 0 0 (!w.params.followText "set-order")) }).push { cls := .type "tuple_iterator", data := .fields #[.ref l, .int 0 0] }).get? s.heap.objs.size
              = some { cls := .type "set", dict := none, data := .set #[] 0 (.fresh 0 0 (!w.params.followText "set-order")) } := Heap.get?_push_of_some _ hS
          exact ⟨[], #[], 0, _, setTR_fresh hget, Got.zero ks⟩
        case hR =>
          intro s' L es ep t hm hS' g' hkp
          obtain ⟨h', g2, d', tk', os'⟩ := s'
          have eg : g2 = s.gens := hm.gens
          have ed : d' = s.drawn := hm.drawn
          have eo : os' = s.os := hm.os
          subst eg; subst ed; subst eo
          show wpAny _ _ _ _ _ _
          refine wpAny_pure ?_
          show wpAny _ _ (ret Value.none) _ _ _
          rw [hisz] at g'
          exact wpAny_pure ⟨rfl, h', tk', L, es, ep, t, rfl, hS', g', hkp⟩

      · cases r₂ with
        | error e => exact hr₂
        | ok fl₂ =>
          cases fl₂ with
          | ret r =>
            obtain ⟨rfl, h', tk, L, es, ep, t, rfl, hS', g', hk'⟩ := hr₂
            repeat (any_goals (first | assumption | wp_step))
            exact h _ _ _ _ _ _ hS' g' hk'
          | _ => exact hr₂.elim
    | _ => exact hr.elim


end
end L2
namespace L2
open PySem PySem.Spec PyProof.Rows
section
variable {X : Cx}
/-- set(t), t a tuple of tuples of ints -/
def rSetOfTT (K : PySem.W.Frag) (P : Program) (w : World) : List V → Hp → VK → Prop := fun xs H Q => ∃ (l : Addr) (ks : List (Addr × List Int)), xs = [V.ref l] ∧ SqT K H l (ks.map fun p => V.ref p.1) ∧ (∀ p ∈ ks, SqT K H p.1 (p.2.map V.int)) ∧ ks.length < 64 ∧
  ∀ a L, H a = none → (∀ p ∈ L, p ∈ ks) → (∀ p ∈ ks, p.2 ∈ L.map (·.2)) → Q (.ref a) (upd H a (SetTO P w a L))
theorem cr_setOfTT (hc : X.calm = true) (hu : X.A.units + 64 < cLine) : CallR X (.type "set") (rSetOfTT X.K X.prog X.w) := by
  intro pins s σ H xs us Q I r h
  obtain ⟨l, ks, rfl, hl, hk, hf, q⟩ := h
  rw [Vals.ref1 r]
  obtain ⟨its, rv, ht, hz⟩ := I.tuple hl
  have hn : H s.heap.objs.size = none := I.hok.fresh (Nat.le_refl _)
  refine call_set_tupsT (P := X.prog) (w := X.w) ks (I.ok.hd hc) ht (by simpa using refs_of_vals rv) (fun p hp => I.isT (hk p hp)) hf (by omega) fun h' tk L es ep t R g k => ?_
  exact ⟨.ref s.heap.objs.size, upd H s.heap.objs.size (SetTO X.prog X.w s.heap.objs.size L), I.laid (t' := tk) k (Nat.le_refl _) (setTO_new R.t0), rfl, q _ L hn (fun p hp => List.mem_of_mem_take (g.sub p hp)) fun p hp => g.all p (by rw [List.take_length]; exact hp)⟩
end
end L2
namespace Dm
open PySem PySem.Spec PyProof.Rows L2 LamX
/-! ### sorted(set(t)) of an ascending tuple of pairs -/
def prI : D → Option (List Int)
  | .tuple [.int i, .int j] => if 0 ≤ i ∧ i < 64 ∧ 0 ≤ j ∧ j < 64 then some [i, j] else none
  | _ => none
def prsI : List D → Option (List (List Int))
  | [] => some []
  | d :: ds => (prI d).bind fun k => (prsI ds).map fun ks => k :: ks
def ascK : List (List Int) → Bool
  | [] => true
  | k :: ks => ks.all (fun m => decide (TS.code 64 k < TS.code 64 m)) && ascK ks
def ssD : D → Option D
  | .tuple ds => match prsI ds with
    | some ks => if decide (ks.length < 64) && ascK ks then some (.list ds) else none
    | none => none
  | _ => none
theorem prI_is {d : D} {k : List Int} (h : prI d = some k) : ∃ i j, d = .tuple [.int i, .int j] ∧ k = [i, j] ∧ TS.Bd 64 k := by
  unfold prI at h
  split at h
  · split at h
    · rename_i hb
      cases h
      refine ⟨_, _, rfl, rfl, fun n hn => ?_⟩
      rcases List.mem_cons.mp hn with rfl | hn
      · omega
      · rw [List.mem_singleton.mp hn]; omega
    · cases h
  · cases h
theorem prs_rows {K : PySem.W.Frag} {W : AP} {H : Hp} : ∀ {vs : List V} {ds : List D} {kk : List (List Int)}, Rps K W H vs ds → prsI ds = some kk → ∃ ks : List (Addr × List Int), vs = ks.map (fun p => V.ref p.1) ∧ ks.map (·.2) = kk ∧ (∀ p ∈ ks, SqT K H p.1 (p.2.map V.int)) ∧ ∀ p ∈ ks, p.2.length = 2 ∧ TS.Bd 64 p.2
  | _, _, kk, .nil, h => by
    cases h
    exact ⟨[], rfl, rfl, fun p hp => (by cases hp), fun p hp => (by cases hp)⟩
  | _, _, kk, .cons (d := d) r rs, h => by
    obtain ⟨k, h1, h2⟩ := Option.bind_eq_some_iff.mp h
    obtain ⟨k2, h3, h4⟩ := Option.map_eq_some_iff.mp h2
    obtain ⟨ks, e1, e2, e3, e4⟩ := prs_rows rs h3
    obtain ⟨i, j, rfl, rfl, hb⟩ := prI_is h1
    obtain ⟨a, xs, rfl, ha, ra⟩ := r.inv_tup
    have ex : xs = [V.int i, V.int j] := by
      cases ra with
      | cons x y =>
        cases x
        cases y with
        | cons x y =>
          cases x
          cases y
          rfl
    subst ex
    refine ⟨(a, [i, j]) :: ks, by rw [e1]; rfl, by rw [List.map_cons, e2, h4], fun p hp => ?_, fun p hp => ?_⟩
    · rcases List.mem_cons.mp hp with rfl | hp
      · exact ha.sq
      · exact e3 p hp
    · rcases List.mem_cons.mp hp with rfl | hp
      · exact ⟨rfl, hb⟩
      · exact e4 p hp
theorem sqT_ex {K : PySem.W.Frag} {H H' : Hp} {a : Addr} {xs : List V} (e : Ex H H') (h : SqT K H a xs) : SqT K H' a xs := by
  rcases h with (h | ⟨o, h⟩) | h
  · exact .inl (.inl (e _ _ h))
  · exact .inl (.inr ⟨o, e _ _ h⟩)
  · exact .inr h
theorem ascK_pw : ∀ {kk : List (List Int)}, ascK kk = true → kk.Pairwise fun a b => TS.code 64 a < TS.code 64 b
  | [], _ => .nil
  | k :: ks, h => by
    unfold ascK at h
    simp only [Bool.and_eq_true, List.all_eq_true, decide_eq_true_eq] at h
    exact .cons h.1 (ascK_pw h.2)
/-- what comes out of the set, sorted, is what went in -/
theorem ss_same {ks L L' : List (Addr × List Int)} (hs : ks.Pairwise fun p q => TS.code 64 p.2 < TS.code 64 q.2) (h1 : ∀ p ∈ L, p ∈ ks) (h2 : ∀ p ∈ ks, p.2 ∈ L.map (·.2)) (pm : L'.Perm L) (hn : (L'.map (·.2)).Nodup) (pw : L'.Pairwise fun q r => TS.code 64 q.2 ≤ TS.code 64 r.2) : L' = ks := by
  have inj : ∀ p ∈ ks, ∀ q ∈ ks, TS.code 64 p.2 = TS.code 64 q.2 → p = q := by
    intro p hp q hq e
    obtain ⟨i, hi, rfl⟩ := List.getElem_of_mem hp
    obtain ⟨j, hj, rfl⟩ := List.getElem_of_mem hq
    have := List.pairwise_iff_getElem.mp hs
    rcases Nat.lt_trichotomy i j with c | c | c
    · have := this i j hi hj c; omega
    · subst c; rfl
    · have := this j i hj hi c; omega
  have nL : L'.Nodup := List.Pairwise.of_map (·.2) (fun _ _ hne e => hne (congrArg _ e)) hn
  have nk : ks.Nodup := hs.imp fun {a b} h e => by rw [e] at h; omega
  have pk : L'.Perm ks := (List.perm_ext_iff_of_nodup nL nk).mpr fun p => ⟨fun hp => h1 p (pm.mem_iff.mp hp), fun hp => by
    obtain ⟨q, hq, e⟩ := List.mem_map.mp (h2 p hp)
    rw [← inj q (h1 q hq) p hp (by rw [e])]
    exact pm.mem_iff.mpr hq⟩
  refine List.Perm.eq_of_pairwise (le := fun q r : Addr × List Int => TS.code 64 q.2 ≤ TS.code 64 r.2) (fun a b ha hb h h' => ?_) pw (hs.imp fun h => Int.le_of_lt h) pk
  exact inj a (pk.mem_iff.mp ha) b hb (Int.le_antisymm h h')
section
variable {X : Cx} {C : Cxt} {W : XW} {k : Nat}
def ssR (m : Rho → Res D) : Rho → Res D := fun ρ => (m ρ).bind fun d ρ1 => lift (ssD d) ρ1
theorem eok_ss {e : Expr} {m : Rho → Res D} {p p2 pos pos2 : Pos} (x : XOk C k X W) (hm : X.mg "set" = none) (hg : Gl X "sorted") (hg2 : Gl X "set") (he : EOk C X W e m) (hp : plainE e = true) : EOk C X W (.Call (.Name "sorted" p) [.Call (.Name "set" p2) [e] [] pos2] [] pos) (ssR m) := by
  intro pa U σ H ρ Q r h
  have hu : X.A.units + 64 < cLine := by have := x.room.un; omega
  have pt : PA X [e] (tCons (tSem X e) tNil) := pa_cons pe_sem pa_nil (star_of hp _ X.env)
  have p1 : PE X (.Call (.Name "set" p2) [e] [] pos2) (tCB (rSetOfTT X.K X.prog X.w) (tCons (tSem X e) tNil)) := pe_callTy (cr_setOfTT x.calm hu) hg2 hm PyProof.Rows.boot_set pt (by decide) (by decide) (star_of hp _ X.env) rfl
  refine sem_of (pe_callB (cr_sortedT x.calm) hg (x.bt .sorted) (Bt.boot .sorted) (pa_cons p1 pa_nil rfl) (by decide) (by decide) rfl rfl) ?_
  refine he pa U σ H ρ _ r (h.bind fun d ρ1 H1 q1 h1 v rv => ?_)
  obtain ⟨d', e', hd⟩ := Post.lift q1.r h1
  unfold ssD at e'
  split at e'
  · rename_i ds
    split at e'
    · rename_i kk hk
      split at e'
      · rename_i hs
        cases e'
        simp only [Bool.and_eq_true, decide_eq_true_eq] at hs
        obtain ⟨a, xs, rfl, ha, rs⟩ := rv.inv_tup
        obtain ⟨ks, e1, e2, e3, e4⟩ := prs_rows rs hk
        have hl : ks.length < 64 := by rw [← List.length_map (f := (·.2)) (as := ks), e2]; exact hs.1
        have hpw : ks.Pairwise fun p q => TS.code 64 p.2 < TS.code 64 q.2 := by
          have := ascK_pw hs.2
          rw [← e2] at this
          exact (List.pairwise_map (f := fun p : Addr × List Int => p.2) (R := fun a b : List Int => TS.code 64 a < TS.code 64 b)).mp this
        refine ⟨a, ks, rfl, by rw [← e1]; exact ha.sq, e3, hl, fun b L hb h1 h2 => ?_⟩
        have hex : Ex H1 (upd H1 b (SetTO X.prog X.w b L)) := Ex.new hb
        refine ⟨b, L, 2, 64, rfl, upd_same, fun p hp => sqT_ex hex (e3 p (h1 p hp)), by decide, fun p hp => e4 p (h1 p hp), fun L' q pm hn _ pw hq => ?_⟩
        have eL : L' = ks := ss_same hpw h1 h2 pm hn pw
        subst eL
        have hex2 : Ex (upd H1 b (SetTO X.prog X.w b L)) (upd (upd H1 b (SetTO X.prog X.w b L)) q (.lst (L'.map fun q => V.ref q.1))) := Ex.new hq
        have hq1 : H1 q = none := by
          cases z : H1 q with
          | none => rfl
          | some o => rw [hex q o z] at hq; cases hq
        have nq : ¬ Wd U σ ρ1 q := fun z => q1.r.wdom z hq1
        refine hd _ (fun a o z => hex2 a o (hex a o z)) _ ?_
        rw [← e1]
        exact Rp.newL nq hq (Rps.kp (Kp.ex hex) rs)
      · cases e'
    · cases e'
  · cases e'
/-! ### t[::-1] -/
def rvtR (m : Rho → Res D) : Rho → Res D := fun ρ => (m ρ).bind fun d ρ1 => match d with
  | .tuple ds => .ok (.tuple ds.reverse) ρ1
  | _ => .bad
theorem rps_rev {K : PySem.W.Frag} {W : AP} {H : Hp} : ∀ {vs : List V} {ds : List D}, Rps K W H vs ds → Rps K W H vs.reverse ds.reverse
  | _, _, .nil => .nil
  | _, _, .cons r rs => by
    rw [List.reverse_cons, List.reverse_cons]
    exact (rps_rev rs).append (.cons r .nil)
theorem eok_rvt {e : Expr} {m : Rho → Res D} {z : Nat} {p1 p2 p3 pos : Pos} (he : EOk C X W e m) : EOk C X W (.Subscript e (.Slice none none (some (.UnaryOp .USub (.Constant (.int 1) z p1) p2)) p3) pos) (rvtR m) := by
  intro pa U σ H ρ Q r h
  refine sem_of (pe_revT pe_sem) ?_
  refine he pa U σ H ρ _ r (h.bind fun d ρ1 H1 q1 h1 v rv => ?_)
  cases d <;> try exact h1.elim
  rename_i ds
  obtain ⟨a, xs, rfl, ha, rs⟩ := rv.inv_tup
  exact ⟨a, xs, rfl, ha.sq, fun p hp => h1 _ (Sq.ex q1.r (Ex.new hp)) _ (Rp.newT (q1.r.fresh hp) hp (rps_rev rs))⟩
/-! ### sep.join(texts), text.split(sep) -/
def strsOf : List D → Option (List Str)
  | [] => some []
  | .str x :: ds => (strsOf ds).map (x :: ·)
  | _ :: _ => none
theorem Rps.strsO {K : PySem.W.Frag} {W : AP} {H : Hp} : ∀ {vs : List V} {ds : List D} {ys : List Str}, Rps K W H vs ds → strsOf ds = some ys → vs = ys.map V.str ∧ ∀ y ∈ ys, StrOk y
  | _, _, ys, .nil, h => by
    cases h
    exact ⟨rfl, fun y hy => (by cases hy)⟩
  | _, _, ys, .cons (d := d) r rs, h => by
    cases d <;> simp only [strsOf, reduceCtorEq] at h
    obtain ⟨k2, h3, h4⟩ := Option.map_eq_some_iff.mp h
    obtain ⟨e1, e2⟩ := Rps.strsO rs h3
    cases r with
    | str _ hx =>
      subst h4
      refine ⟨by rw [e1]; rfl, fun y hy => ?_⟩
      rcases List.mem_cons.mp hy with rfl | hy
      · exact hx
      · exact e2 y hy
def joinD (x y : D) : Option D := match x, y with
  | .str a, .list ds => (strsOf ds).bind fun ys => if (ys.map (·.length)).sum + ys.length * a.length ≤ 1000000 then some (.str (Txt.join a ys)) else none
  | _, _ => none
theorem arr_all {α : Type} {p : α → Bool} {a : Array α} : a.all p = true ↔ ∀ x ∈ a.toList, p x = true := by
  rw [← Array.all_toList, List.all_eq_true]
theorem ok_join {a : Str} {ys : List Str} (ha : StrOk a) (hy : ∀ y ∈ ys, StrOk y) (hz : (ys.map (·.length)).sum + ys.length * a.length ≤ 1000000) : StrOk (Txt.join a ys) := by
  refine ⟨?_, ?_⟩
  · have key : ∀ (l : List Str) (c : Array Nat), (∀ y ∈ l, StrOk y) → c.all (· < 0x110000) = true → (l.foldl (fun acc p => acc ++ a.cps ++ p.cps) c).all (· < 0x110000) = true := by
      intro l
      induction l with
      | nil => intro c _ h; exact h
      | cons y l ih =>
        intro c h1 h2
        rw [List.foldl_cons]
        refine ih _ (fun z hz => h1 z (List.mem_cons_of_mem _ hz)) ?_
        rw [Array.all_append, Array.all_append, h2, ha.all, (h1 y List.mem_cons_self).all]; rfl
    cases ys with
    | nil => exact Array.all_eq_true.mpr fun i h => absurd h (Nat.not_lt_zero _)
    | cons y ys => exact key ys y.cps (fun z hz => hy z (List.mem_cons_of_mem _ hz)) (hy y List.mem_cons_self).all
  · rw [show Txt.join a ys = Str.join a ys from _root_.TL.join_eq a ys]
    have := StrLaws.join_length_le a ys
    rw [sizeLine_eq]
    omega
def rSep (K : PySem.W.Frag) (p : D → D → Option D) : V → List V → Hp → VK → Prop := fun x xs H Q => ∃ (W : AP) (dx dy d : D) (y : V), xs = [y] ∧ Rp K W H x dx ∧ Rp K W H y dy ∧ (∀ a, W a → H a ≠ none) ∧ p dx dy = some d ∧ ∀ v H', Ex H H' → Rp K W H' v d → Q v H'
theorem mt_joinD : MtR X "str.join" (rSep X.K joinD) := by
  rintro pins s σ H x xs v us Q I ru rv ⟨W, dx, dy, d, y, rfl, rx, ry, dom, e, k⟩
  unfold joinD at e
  split at e
  · rename_i a ds
    obtain ⟨ys, e1, e2⟩ := Option.bind_eq_some_iff.mp e
    split at e2
    · rename_i hz
      cases e2
      cases rx with
      | str _ hx =>
        obtain ⟨b, vs, rfl, nb, hb, rb⟩ := ry.inv_lst
        obtain ⟨e3, e4⟩ := rb.strsO e1
        subst e3
        exact mt_join pins s σ H _ _ v us Q I ru rv ⟨a, b, ys, rfl, rfl, .inl (SqL.of hb), by omega, k _ _ (Ex.rfl' H) (.str _ (ok_join hx e4 hz))⟩
    · cases e2
  · cases e
def splitD (x y : D) : Option D := match x, y with
  | .str a, .str b => if 0 < b.length ∧ a.length ≤ 1000000 then some (.list ((Txt.split a b).map .str)) else none
  | _, _ => none
theorem ok_sub {a : Str} (ha : StrOk a) (i j : Nat) : StrOk (Builtin.Str.strSub a i j) := by
  refine ⟨?_, ?_⟩
  · rw [arr_all]
    intro c hc
    have h1 := arr_all.mp ha.all
    refine h1 c ?_
    have : c ∈ (a.cps.extract i j).toList := hc
    rw [Array.toList_extract] at this
    exact List.mem_of_mem_drop (List.mem_of_mem_take this)
  · have := ha.len
    show (a.cps.extract i j).size ≤ _
    rw [Array.size_extract]
    have e : a.length = a.cps.size := rfl
    omega
theorem ok_split {a b : Str} (ha : StrOk a) : ∀ y ∈ Txt.split a b, StrOk y := by
  intro y hy
  unfold Txt.split at hy
  split at hy
  · rw [List.mem_singleton.mp hy]; exact ha
  · split at hy
    · rw [List.mem_singleton.mp hy]; exact ha
    · unfold Builtin.Str.partsBetween at hy
      obtain ⟨p, _, rfl⟩ := List.mem_map.mp hy
      exact ok_sub ha _ _
theorem rps_strs {K : PySem.W.Frag} {W : AP} {H : Hp} : ∀ {ys : List Str}, (∀ y ∈ ys, StrOk y) → Rps K W H (ys.map V.str) (ys.map PyData.str)
  | [], _ => .nil
  | y :: ys, h => .cons (.str _ (h y List.mem_cons_self)) (rps_strs fun z hz => h z (List.mem_cons_of_mem _ hz))
theorem mt_splitD : MtR X "str.split" (rSep X.K splitD) := by
  rintro pins s σ H x xs v us Q I ru rv ⟨W, dx, dy, d, y, rfl, rx, ry, dom, e, k⟩
  unfold splitD at e
  split at e
  · rename_i a b
    split at e
    · rename_i hz
      cases e
      cases rx with
      | str _ hx =>
        cases ry with
        | str _ hy =>
          refine mt_split pins s σ H _ _ v us Q I ru rv ⟨a, b, rfl, rfl, beq_eq_false_iff_ne.mpr (by omega), by rw [sizeLine_eq]; omega, fun p hp => ?_⟩
          exact k _ _ (Ex.new hp) (Rp.newL (nW dom hp) hp (rps_strs (ok_split hx)))
    · cases e
  · cases e
def mthR (p : D → D → Option D) (m n : Rho → Res D) : Rho → Res D := fun ρ => (m ρ).bind fun x ρ1 => match x with
  | .str a => (n ρ1).bind fun y ρ2 => lift (p (.str a) y) ρ2
  | _ => .bad
theorem eok_mth {o e : Expr} {m n : Rho → Res D} {p : D → D → Option D} {nm : Str} {id : String} {apos cpos : Pos} (slot : Slot "str" nm id) (ty : typeOf (.builtin id) = pure (.type "method_descriptor")) (hm : MtR X id (rSep X.K p)) (x : XOk C k X W) (ho : EOk C X W o m) (he : EOk C X W e n) (hb : plainB o = true) (hp : plainE e = true) (hl : (apos.endLine == cpos.line) = true) :
    EOk C X W (.Call (.Attribute o nm apos) [e] [] cpos) (mthR p m n) := by
  intro pa U σ H ρ Q r h
  refine sem_of (pe_m1 slot ty hm pe_sem pe_sem (by rw [star_of hp] <;> rfl) (plainB_of hb _ _) hl) ?_
  refine ho pa U σ H ρ _ r (h.bind fun dx ρ1 H1 q1 h1 vx rx => ?_)
  split at h1
  · rename_i a
    cases rx with
    | str _ hx =>
      refine ⟨⟨a, rfl⟩, ?_⟩
      refine he pa U σ H1 ρ1 _ q1.r (h1.bind fun dy ρ2 H2 q2 h2 vy ry => ?_)
      obtain ⟨d, e, hd⟩ := Post.lift q2.r h2
      exact ⟨Wd U σ ρ2, .str a, dy, d, vy, rfl, .str _ hx, ry, fun a z => q2.r.wdom z, e, fun v H' ex rv => hd H' ex v rv⟩
  · exact h1.elim
theorem eok_join {o e : Expr} {m n : Rho → Res D} {apos cpos : Pos} (x : XOk C k X W) (ho : EOk C X W o m) (he : EOk C X W e n) (hb : plainB o = true) (hp : plainE e = true) (hl : (apos.endLine == cpos.line) = true) : EOk C X W (.Call (.Attribute o "join" apos) [e] [] cpos) (mthR joinD m n) :=
  eok_mth PySem.F.slot_str_join PySem.F.type_str_join mt_joinD x ho he hb hp hl
theorem eok_split {o e : Expr} {m n : Rho → Res D} {apos cpos : Pos} (x : XOk C k X W) (ho : EOk C X W o m) (he : EOk C X W e n) (hb : plainB o = true) (hp : plainE e = true) (hl : (apos.endLine == cpos.line) = true) : EOk C X W (.Call (.Attribute o "split" apos) [e] [] cpos) (mthR splitD m n) :=
  eok_mth PySem.F.slot_str_split PySem.F.type_str_split mt_splitD x ho he hb hp hl
end
end Dm
namespace Dm
open PySem PySem.Spec PyProof.Rows L2 LamX
/-! ### the text, as data -/
mutual
inductive IE where
  | non
  | bl (b : Bool)
  | int (i : Int)
  | str (x : Str)
  | var (i : Nat)
  | glb (g : Nat)
  | bin (o : B2) (a b : IE)
  | neg (a : IE)
  | cmp (o : C2) (a b : IE)
  | cmp2 (o o' : C2) (a b c : IE)
  | not (a : IE)
  | and (as : IEs)
  | or (as : IEs)
  | ite (c a b : IE)
  | tup (as : IEs)
  | lst (as : IEs)
  | ix (a b : IE)
  | ixv (i : Nat) (b : IE)
  | sl (a : IE) (lo hi : IO)
  | blt (b : Bt) (as : IEs)
  | isi (t : Ty) (a : IE)
  | idx (a b : IE)
  | inS (neg : Bool) (i : Nat) (a : IE)
  | lenv (i : Nat)
  | nil (i : Nat)
  | call (f : Nat) (nw : Bool) (as : IAs)
  | call0 (f : Nat)
  | lrg (a b : IE)
  | rvt (a : IE)
  | ss (a : IE)
  | join (a b : IE)
  | split (a b : IE)
  | comp (p : Pt) (own : List (Str × Nat)) (it : II) (ts : IT) (elt : IE)
  | told (a : IE)
inductive IEs where
  | nil
  | cons (a : IE) (r : IEs)
inductive IO where
  | non
  | som (a : IE)
inductive IAs where
  | nil
  | val (a : IE) (r : IAs)
  | slo (i : Nat) (r : IAs)
inductive II where
  | dat (a : IE)
  | rng1 (a : IE)
  | rng2 (a b : IE)
  | enm (a : IE)
  | rev (a : IE)
inductive IT where
  | yes
  | tst (a : IE)
end
inductive IFs where
  | nil
  | val (a : IE) (r : IFs)
  | lst (r : IFs)
  | dct (r : IFs)
mutual
inductive IS where
  | pass
  | brk
  | expr (a : IE)
  | ret (a : IE)
  | ifs (c : IE) (a b : ISs)
  | raise (c : Exn)
  | set (i : Nat) (a : IE)
  | setL (i : Nat)
  | setD (i : Nat)
  | asg (p : Pt) (a : IE)
  | par (i j : Nat) (fs : IFs)
  | asgF (is : List Nat) (fs : IFs)
  | aug (i : Nat) (a : IE)
  | st (i : Nat) (a b : IE)
  | app (i : Nat) (a : IE)
  | for_ (p : Pt) (it : II) (body : ISs)
  | while_ (n : Nat) (c : IE) (body : ISs)
inductive ISs where
  | nil
  | cons (a : IS) (r : ISs)
end
def IEs.len : IEs → Nat
  | .nil => 0
  | .cons _ r => r.len + 1
/-- told's result: a value, or the exception's kind -/
def toldR (m : Rho → Res D) : Rho → Res D := fun ρ => match m ρ with
  | .ok d ρ' => .ok d ρ'
  | .exc c ρ' => .ok (.tuple [.str "error", .str c.cname]) ρ'
  | .bad => .bad
def noFn : Fn := ⟨"", 0, fun _ => .bad⟩
/-! ### what it means -/
section
variable (Δ : Nat → Fn) (G : List (Str × D))
mutual
def den : IE → Rho → Res D
  | .non => fun ρ => .ok .none ρ
  | .bl b => fun ρ => .ok (.bool b) ρ
  | .int i => fun ρ => .ok (.int i) ρ
  | .str x => fun ρ => .ok (.str x) ρ
  | .var i => rdv i
  | .glb g => fun ρ => match G[g]? with
    | some q => .ok q.2 ρ
    | none => .bad
  | .bin o a b => bin2 o.den (den a) (den b)
  | .neg a => un1 negD (den a)
  | .cmp o a b => bin2 o.den (den a) (den b)
  | .cmp2 o o' a b c => chain2 o.den o'.den (den a) (den b) (den c)
  | .not a => un1 notD (den a)
  | .and as => denAnd as
  | .or as => denOr as
  | .ite c a b => iteB (den c) (den a) (den b)
  | .tup as => tupR (dens as)
  | .lst as => lstR (dens as)
  | .ix a b => bin2 ixD (den a) (den b)
  | .ixv i b => ixvR i (den b)
  | .sl a lo hi => slR (den a) (denO lo) (denO hi)
  | .blt b as => bltR b.den (dens as)
  | .isi t a => isiR t (den a)
  | .idx a b => idxR (den a) (den b)
  | .inS neg i a => inSR neg i (den a)
  | .lenv i => lenvR i
  | .nil i => nilR i
  | .call f nw as => callR (Δ f) nw (denA as)
  | .call0 f => callR (Δ f) false fun ρ => .ok [] ρ
  | .lrg a b => lrgR (den a) (den b)
  | .rvt a => rvtR (den a)
  | .ss a => ssR (den a)
  | .join a b => mthR joinD (den a) (den b)
  | .split a b => mthR splitD (den a) (den b)
  | .comp p own it ts elt => compR p (own.map (·.2)) (denI it) (denT ts) (den elt)
  | .told a => toldR (den a)
def dens : IEs → Rho → Res (List D)
  | .nil => fun ρ => .ok [] ρ
  | .cons a r => consR (den a) (dens r)
def denAnd : IEs → Rho → Res D
  | .nil => fun _ => .bad
  | .cons a .nil => den a
  | .cons a (.cons b r) => andB (den a) (denAnd (.cons b r))
def denOr : IEs → Rho → Res D
  | .nil => fun _ => .bad
  | .cons a .nil => den a
  | .cons a (.cons b r) => orB (den a) (denOr (.cons b r))
def denO : IO → Rho → Res (Option Int)
  | .non => fun ρ => .ok none ρ
  | .som a => somR (den a)
def denA : IAs → Rho → Res (List Ar)
  | .nil => fun ρ => .ok [] ρ
  | .val a r => consG (datR (den a)) (denA r)
  | .slo i r => consG (sloR i) (denA r)
def denI : II → Rho → Res (List D)
  | .dat a => itR (den a)
  | .rng1 a => rng1R (den a)
  | .rng2 a b => rng2R (den a) (den b)
  | .enm a => enumR (den a)
  | .rev a => revR (den a)
def denT : IT → Option (Rho → Res D)
  | .yes => none
  | .tst a => some (den a)
end
def denF : IFs → Rho → Res (List Fl)
  | .nil => fun ρ => .ok [] ρ
  | .val a r => consF (valF (den Δ G a)) (denF r)
  | .lst r => consF (fun ρ => .ok .lst ρ) (denF r)
  | .dct r => consF (fun ρ => .ok .dct ρ) (denF r)
mutual
def denS : IS → Rho → SR
  | .pass => fun ρ => .nx ρ
  | .brk => fun ρ => .bk ρ
  | .expr a => fun ρ => (den Δ G a ρ).to fun _ ρ1 => .nx ρ1
  | .ret a => fun ρ => (den Δ G a ρ).to fun d ρ1 => .rt d ρ1
  | .ifs c a b => ifR (den Δ G c) (denSs a) (denSs b)
  | .raise c => fun ρ => .ex c ρ
  | .set i a => setR i (den Δ G a)
  | .setL i => fun ρ => .nx (ρ.set i (.own false []))
  | .setD i => fun ρ => .nx (ρ.set i (.dic false []))
  | .asg p a => asgR p (den Δ G a)
  | .par i j fs => putR [i, j] (denF Δ G fs)
  | .asgF is fs => putR is (denF Δ G fs)
  | .aug i a => augR i (den Δ G a)
  | .st i a b => stR i (den Δ G a) (den Δ G b)
  | .app i a => appR i (den Δ G a)
  | .for_ p it body => forR p (denI Δ G it) (denSs body)
  | .while_ n c body => whL (den Δ G c) (denSs body) n
def denSs : ISs → Rho → SR
  | .nil => fun ρ => .nx ρ
  | .cons a r => fun ρ => (denS a ρ).seq (denSs r)
end
end
/-! ### that a text is the data -/
def visB (sc : Scope) (x : Str) : Bool := match sc.names.lookup x with
  | some .local => true
  | some .cell => true
  | some .free => true
  | _ => false
def locB (sc : Scope) (x : Str) : Bool := match sc.names.lookup x with
  | some .local => true
  | some .cell => true
  | _ => false
def glB (sc : Scope) (x : Str) : Bool := match sc.names.lookup x with
  | some .globalImplicit => true
  | _ => false
def atB (N : List Str) (i : Nat) (x : Str) : Bool := match N[i]? with
  | some y => decide (y = x)
  | none => false
def varB (N : List Str) (sc : Scope) (i : Nat) (x : Str) : Bool := atB N i x && (visB sc x && (!(x == ("__debug__" : Str)) && !(x == ("__classdict__" : Str))))
/-- a name of the list that is set in a block or a def; fb: the names that the frame holds in cells are written there -/
def setB (N : List Str) (sc : Scope) (fn : Str → Bool) (i : Nat) (x : Str) : Bool := atB N i x && (locB sc x && (fn x || (match sc.names.lookup x with
  | some .local => true
  | _ => false)))
mutual
def chkP (N : List Str) (sc : Scope) (fn : Str → Bool) : Pt → Expr → Bool
  | .nm i, .Name x _ => setB N sc fn i x
  | .tp ps, .Tuple es _ _ => chkPs N sc fn ps es
  | _, _ => false
def chkPs (N : List Str) (sc : Scope) (fn : Str → Bool) : Pts → List Expr → Bool
  | .nil, [] => true
  | .cons p ps, e :: es => chkP N sc fn p e && (plainE e && chkPs N sc fn ps es)
  | _, _ => false
end
def notSet : Expr → Bool
  | .Set .. => false
  | _ => true
def isTupT : Expr → Bool
  | .Tuple .. => true
  | _ => false
abbrev BB := Bool × Bool
def bb (b : Bool) : BB := (b, b)
/-- a value's check, and its test's -/
def pl (e : Expr) (b : Bool) : BB := (b, b && plainT e)
def isNameE : Expr → Option Str
  | .Name x _ => some x
  | _ => none
def C2.isIn : C2 → Bool
  | .isin => true
  | .notin => true
  | _ => false
section
variable (fns : List (Nat × Str)) (G : List (Str × D)) (N : List Str)
mutual
def chk (lm : Bool) (sc : Scope) : IE → Expr → BB
  | .non, z0 => match z0 with
    | .Constant .none _ _ => (true, true)
    | _ => (false, false)
  | .bl b, z0 => match z0 with
    | .Constant (.bool c) _ _ => bb (b == c)
    | _ => (false, false)
  | .int i, z0 => match z0 with
    | .Constant (.int j) _ _ => bb (decide (i = j))
    | _ => (false, false)
  | .str x, z0 => match z0 with
    | .Constant (.str y) _ _ => bb (decide (x = y) && (x.cps.all (· < 0x110000) && decide (x.length ≤ 10000)))
    | _ => (false, false)
  | .var i, z0 => match z0 with
    | .Name x _ => bb (varB N sc i x)
    | _ => (false, false)
  | .glb g, z0 => match z0 with
    | .Name x _ => bb ((match G[g]? with
    | some q => decide (q.1 = x)
    | none => false) && (glB sc x && !(x == ("__debug__" : Str))))
    | _ => (false, false)
  | .bin o a b, z0 => match z0 with
    | .BinOp x op y _ => bb (decide (op = o.op) && ((chk lm sc a x).1 && (chk lm sc b y).1))
    | _ => (false, false)
  | .neg a, z0 => match z0 with
    | .UnaryOp .USub x _ => bb (chk lm sc a x).1
    | _ => (false, false)
  | .cmp o a b, z0 => match z0 with
    | .Compare x [op] [y] _ => bb (decide (op = o.op) && ((chk lm sc a x).1 && ((chk lm sc b y).1 && !behindInMarks o.op y)))
    | _ => (false, false)
  | .cmp2 o o' a b c, z0 => match z0 with
    | .Compare x [op, op'] [y, z] _ => bb (decide (op = o.op) && (decide (op' = o'.op) && (!o.isIn && (!o'.isIn && ((chk lm sc a x).1 && ((chk lm sc b y).1 && (chk lm sc c z).1))))))
    | _ => (false, false)
  | .not a, z0 => match z0 with
    | .UnaryOp .Not x _ => chk lm sc a x
    | _ => (false, false)
  | .and as, z0 => match z0 with
    | .BoolOp .And es _ => (decide (as.len ≠ 0) && (chks lm sc as es).1, decide (as.len ≠ 0) && (chks lm sc as es).2)
    | _ => (false, false)
  | .or as, z0 => match z0 with
    | .BoolOp .Or es _ => (decide (as.len ≠ 0) && (chks lm sc as es).1, decide (as.len ≠ 0) && (chks lm sc as es).2)
    | _ => (false, false)
  | .ite c a b, z0 => match z0 with
    | .IfExp x y z _ => ((chk lm sc c x).2 && ((chk lm sc a y).1 && (chk lm sc b z).1), false)
    | _ => (false, false)
  | .tup as, z0 => match z0 with
    | .Tuple es _ _ => bb ((chks lm sc as es).1 && decide (as.len ≤ 1000))
    | _ => (false, false)
  | .lst as, z0 => match z0 with
    | .List es _ => bb ((chks lm sc as es).1 && decide (as.len ≤ 1000))
    | _ => (false, false)
  | .ix a b, z0 => match z0 with
    | .Subscript x y _ => bb ((chk lm sc a x).1 && ((chk lm sc b y).1 && plainIx y))
    | _ => (false, false)
  | .ixv i b, z0 => match z0 with
    | .Subscript (.Name x _) y _ => bb (varB N sc i x && ((chk lm sc b y).1 && plainIx y))
    | _ => (false, false)
  | .sl a lo hi, z0 => match z0 with
    | .Subscript x (.Slice l u none _) _ => bb ((chk lm sc a x).1 && (chkO lm sc lo l && chkO lm sc hi u))
    | _ => (false, false)
  | .blt b as, z0 => match z0 with
    | .Call (.Name x _) (e :: es) [] _ => bb (decide (x = b.name) && (glB sc x && (chks lm sc as (e :: es)).1))
    | _ => (false, false)
  | .isi t a, z0 => match z0 with
    | .Call (.Name x _) [y, .Name z _] [] _ => bb (decide (x = "isinstance") && (decide (z = t.name) && (glB sc x && (glB sc z && ((chk lm sc a y).1 && plainE y)))))
    | _ => (false, false)
  | .idx a b, z0 => match z0 with
    | .Call (.Attribute o m ap) [y] [] cp => bb (decide (m = "index") && ((chk lm sc a o).1 && ((chk lm sc b y).1 && (plainB o && (plainE y && (ap.endLine == cp.line))))))
    | _ => (false, false)
  | .inS neg i a, z0 => match z0 with
    | .Compare x [op] [.Name y _] _ => bb (decide (op = if neg then .NotIn else .In) && (varB N sc i y && (chk lm sc a x).1))
    | _ => (false, false)
  | .lenv i, z0 => match z0 with
    | .Call (.Name x _) [.Name y _] [] _ => bb (decide (x = "len") && (glB sc x && varB N sc i y))
    | _ => (false, false)
  | .nil i, z0 => match z0 with
    | .Compare (.Name y _) [.Eq] [.List [] _] _ => bb (varB N sc i y)
    | _ => (false, false)
  | .call f nw as, z0 => match z0 with
    | .Call (.Name x _) (e :: es) [] _ => bb ((match fns.lookup f with
    | some q => decide (q = x)
    | none => false) && (glB sc x && (chkA lm sc nw as (e :: es) && (plainE e && es.all plainE))))
    | _ => (false, false)
  | .lrg a b, z0 => match z0 with
    | .Call (.Name x _) [.Call (.Name y _) [u, v] [] _] [] _ => bb (decide (x = "list") && (decide (y = "range") && (glB sc x && (glB sc y && ((chk lm sc a u).1 && ((chk lm sc b v).1 && (plainE u && plainE v)))))))
    | _ => (false, false)
  | .rvt a, z0 => match z0 with
    | .Subscript x (.Slice none none (some (.UnaryOp .USub (.Constant (.int j) _ _) _)) _) _ => bb (decide (j = 1) && (chk lm sc a x).1)
    | _ => (false, false)
  | .ss a, z0 => match z0 with
    | .Call (.Name x _) [.Call (.Name y _) [u] [] _] [] _ => bb (decide (x = "sorted") && (decide (y = "set") && (glB sc x && (glB sc y && ((chk lm sc a u).1 && plainE u)))))
    | _ => (false, false)
  | .join a b, z0 => match z0 with
    | .Call (.Attribute o m ap) [y] [] cp => bb (decide (m = "join") && ((chk lm sc a o).1 && ((chk lm sc b y).1 && (plainB o && (plainE y && (ap.endLine == cp.line))))))
    | _ => (false, false)
  | .split a b, z0 => match z0 with
    | .Call (.Attribute o m ap) [y] [] cp => bb (decide (m = "split") && ((chk lm sc a o).1 && ((chk lm sc b y).1 && (plainB o && (plainE y && (ap.endLine == cp.line))))))
    | _ => (false, false)
  | .call0 f, z0 => match z0 with
    | .Call (.Name x _) [] [] _ => bb ((match fns.lookup f with
    | some q => decide (q = x)
    | none => false) && glB sc x)
    | _ => (false, false)
  | .comp p own it ts elt, z0 => match z0 with
    | .ListComp el [⟨tg, iter, ifs, z⟩] scope _ => bb (decide (z = 0) && (blkC N sc scope own && (chkI lm sc (isTupT tg) it iter && (chkP N (relS scope sc) (fun x => scope.names.lookup x == some .cell) p tg &&
      (chkT false (relS scope sc) ts ifs && ((chk false (relS scope sc) elt el).1 && (notSet iter && p.ixs.all fun i => (own.map (·.2)).contains i)))))))
    | _ => (false, false)
  | .told a, z0 => match z0 with
    | .Call (.Name x _) [.Lambda ⟨[], [], none, [], [], none, []⟩ body scope _] [] _ => bb (lm && (decide (x = "_law_told") && (glB sc x && (lamSB sc scope && (chk false scope a body).1))))
    | _ => (false, false)

def chks (lm : Bool) (sc : Scope) : IEs → List Expr → BB
  | .nil, z0 => match z0 with
    | [] => (true, true)
    | _ => (false, false)
  | .cons a r, z0 => match z0 with
    | e :: es => (plainE e && ((chk lm sc a e).1 && (chks lm sc r es).1), plainE e && ((chk lm sc a e).2 && (chks lm sc r es).2))
    | _ => (false, false)

def chkO (lm : Bool) (sc : Scope) : IO → Option Expr → Bool
  | .non, z0 => match z0 with
    | none => true
    | _ => false
  | .som a, z0 => match z0 with
    | some e => (chk lm sc a e).1
    | _ => false

def chkA (lm : Bool) (sc : Scope) (nw : Bool) : IAs → List Expr → Bool
  | .nil, es0 => match es0 with
    | [] => !nw
    | [.Dict [] [] _] => nw
    | _ => false
  | .val a r, z0 => match z0 with
    | e :: es => plainE e && ((chk lm sc a e).1 && chkA lm sc nw r es)
    | _ => false
  | .slo i r, z0 => match z0 with
    | .Name x _ :: es => varB N sc i x && chkA lm sc nw r es
    | _ => false
def chkI (lm : Bool) (sc : Scope) (tup : Bool) : II → Expr → Bool
  | .dat a, e => (chk lm sc a e).1
  | .rng1 a, z0 => match z0 with
    | .Call (.Name x _) [e] [] _ => decide (x = "range") && (glB sc x && ((chk lm sc a e).1 && plainE e))
    | _ => false
  | .rng2 a b, z0 => match z0 with
    | .Call (.Name x _) [e, f] [] _ => decide (x = "range") && (glB sc x && ((chk lm sc a e).1 && (plainE e && ((chk lm sc b f).1 && plainE f))))
    | _ => false
  | .enm a, z0 => match z0 with
    | .Call (.Name x _) [e] [] _ => tup && (decide (x = "enumerate") && (glB sc x && ((chk lm sc a e).1 && plainE e)))
    | _ => false
  | .rev a, z0 => match z0 with
    | .Call (.Name x _) [e] [] _ => decide (x = "reversed") && (glB sc x && ((chk lm sc a e).1 && plainE e))
    | _ => false

def chkT (lm : Bool) (sc : Scope) : IT → List Expr → Bool
  | .yes, z0 => match z0 with
    | [] => true
    | _ => false
  | .tst a, z0 => match z0 with
    | [e] => (chk lm sc a e).2
    | _ => false

end
def chkF (lm : Bool) (sc : Scope) : IFs → List Expr → Bool
  | .nil, z0 => match z0 with
    | [] => true
    | _ => false
  | .val a r, z0 => match z0 with
    | e :: es => plainE e && ((chk fns G N lm sc a e).1 && chkF lm sc r es)
    | _ => false
  | .lst r, z0 => match z0 with
    | .List [] _ :: es => chkF lm sc r es
    | _ => false
  | .dct r, z0 => match z0 with
    | .Dict [] [] _ :: es => chkF lm sc r es
    | _ => false

def nmsB (N : List Str) (sc : Scope) : List Nat → List Expr → Bool
  | [], [] => true
  | i :: is, .Name x _ :: ts => setB N sc (fun _ => true) i x && nmsB N sc is ts
  | _, _ => false
def isLocal (sc : Scope) (x : Str) : Bool := match sc.names.lookup x with
  | some .local => true
  | _ => false
def isCompR : IE → Bool
  | .comp .. => true
  | _ => false
def lcB (x : Str) (py : Pos) : Expr → Bool
  | .ListComp _ _ scope pos => (py.line == pos.line) && !(scope.names.any fun (n, k) => n == x && (k == .local || k == .cell))
  | _ => false
variable (exs : List Exn)
mutual
def chkS (lm : Bool) (sc : Scope) : IS → Stmt → Bool
  | .pass, z0 => match z0 with
    | .Pass _ => true
    | _ => false
  | .brk, z0 => match z0 with
    | .Break _ => true
    | _ => false
  | .expr a, z0 => match z0 with
    | .Expr e _ => (chk fns G N lm sc a e).1 && noLc e
    | _ => false
  | .ret a, z0 => match z0 with
    | .Return (some e) _ => (chk fns G N lm sc a e).1
    | _ => false
  | .ifs c a b, z0 => match z0 with
    | .If x y z _ => (chk fns G N lm sc c x).2 && (chkSs lm sc a y && chkSs lm sc b z)
    | _ => false
  | .raise c, z0 => match z0 with
    | .Raise (some (.Call (.Name x _) [.Constant (.str _) _ _] [] _)) none _ => decide (x = c.cname) && (glB sc x && exs.contains c)
    | _ => false
  | .set i a, z0 => match z0 with
    | .Assign [.Name x py] e _ => (chk fns G N lm sc a e).1 && (if (noLc e || !(sc.names.lookup x == some .local)) then setB N sc (fun _ => true) i x else atB N i x && (isLocal sc x && lcB x py e))
    | _ => false
  | .setL i, z0 => match z0 with
    | .Assign [.Name x _] (.List [] _) _ => setB N sc (fun _ => true) i x
    | _ => false
  | .setD i, z0 => match z0 with
    | .Assign [.Name x _] (.Dict [] [] _) _ => setB N sc (fun _ => true) i x
    | _ => false
  | .asg p a, z0 => match z0 with
    | .Assign [tg] e _ => chkP N sc (fun _ => true) p tg && ((chk fns G N lm sc a e).1 && (noLc e && (noSwap tg e && plainE tg)))
    | _ => false
  | .par i j fs, z0 => match z0 with
    | .Assign [.Tuple [.Name x px, .Name y py] _ _] (.Tuple [a, b] _ _) _ => atB N i x && (atB N j y && (decide (i ≠ j) && (isLocal sc x && (isLocal sc y && (chkF fns G N lm sc fs [a, b] && decide (swapD sc [.Name x px, .Name y py] [a, b] = some (some [x, y])))))))
    | _ => false
  | .asgF is fs, z0 => match z0 with
    | .Assign [.Tuple ts _ _] (.Tuple vs _ _) _ => nmsB N sc is ts && (chkF fns G N lm sc fs vs && (decide (swapD sc ts vs = some none) && decide (is.length ≤ 1000)))
    | _ => false
  | .aug i a, z0 => match z0 with
    | .AugAssign (.Name x _) .Add e _ => setB N sc (fun _ => true) i x && (chk fns G N lm sc a e).1
    | _ => false
  | .st i a b, z0 => match z0 with
    | .Assign [.Subscript (.Name x _) y _] e _ => varB N sc i x && ((chk fns G N lm sc a e).1 && ((chk fns G N lm sc b y).1 && (noLc e && (plainIx y && !isTup e))))
    | _ => false
  | .app i a, z0 => match z0 with
    | .Expr (.Call (.Attribute (.Name x _) m ap) [e] [] cp) _ => decide (m = "append") && (varB N sc i x && ((chk fns G N lm sc a e).1 && (plainE e && (ap.endLine == cp.line))))
    | _ => false
  | .for_ p it body, z0 => match z0 with
    | .For tg iter b [] _ => chkI fns G N lm sc (isTupT tg) it iter && (chkP N sc (fun _ => true) p tg && (chkSs lm sc body b && notSet iter))
    | _ => false
  | .while_ _ c body, z0 => match z0 with
    | .While x b [] _ => (chk fns G N lm sc c x).2 && chkSs lm sc body b
    | _ => false

def chkSs (lm : Bool) (sc : Scope) : ISs → List Stmt → Bool
  | .nil, z0 => match z0 with
    | [] => true
    | _ => false
  | .cons a r, z0 => match z0 with
    | s :: ss => chkS lm sc a s && chkSs lm sc r ss
    | _ => false

end
end
end Dm
namespace Dm
open PySem PySem.Spec PyProof.Rows L2 LamX
theorem ba {a b : Bool} (h : (a && b) = true) : a = true ∧ b = true := Bool.and_eq_true_iff.mp h
theorem bn {a : Bool} (h : (!a) = true) : a = false := by cases a <;> first | rfl | cases h
theorem visB_of {sc : Scope} {x : Str} (h : visB sc x = true) : Vis sc x := by
  unfold visB at h
  split at h
  · rename_i e; exact .inl e
  · rename_i e; exact .inr (.inl e)
  · rename_i e; exact .inr (.inr e)
  · cases h
theorem locB_of {sc : Scope} {x : Str} (h : locB sc x = true) : Loc sc x := by
  unfold locB at h
  split at h
  · rename_i e; exact .inl e
  · rename_i e; exact .inr e
  · cases h
theorem glB_of {X : Cx} {sc : Scope} {x : Str} (e : X.env.scope = sc) (h : glB sc x = true) : Gl X x := by
  subst e
  unfold glB at h
  split at h
  · rename_i e; exact e
  · cases h
theorem atB_of {N : List Str} {i : Nat} {x : Str} (h : atB N i x = true) : N[i]? = some x := by
  unfold atB at h
  split at h
  · rename_i y e; rw [e, of_decide_eq_true h]
  · cases h
theorem isLocal_of {sc : Scope} {x : Str} (h : isLocal sc x = true) : sc.names.lookup x = some .local := by
  unfold isLocal at h
  split at h
  · assumption
  · cases h
theorem varB_of {X : Cx} {N : List Str} {sc : Scope} {i : Nat} {x : Str} (eN : X.N = N) (es : X.env.scope = sc) (h : varB N sc i x = true) : VarOk X i x := by
  subst eN es
  obtain ⟨h1, u2⟩ := ba h
  obtain ⟨h2, u3⟩ := ba u2
  obtain ⟨h3, h4⟩ := ba u3
  exact ⟨atB_of h1, visB_of h2, bn h3, bn h4⟩
theorem setB_of {X : Cx} {N : List Str} {sc : Scope} {fn : Str → Bool} {i : Nat} {x : Str} (eN : X.N = N) (es : X.env.scope = sc) (ef : X.fn = fn) (h : setB N sc fn i x = true) : SetOk X i x ∧ (X.fn x = true ∨ X.env.scope.names.lookup x = some .local) := by
  subst eN es ef
  obtain ⟨h1, u2⟩ := ba h
  obtain ⟨h2, h3⟩ := ba u2
  refine ⟨⟨atB_of h1, locB_of h2⟩, ?_⟩
  rw [Bool.or_eq_true] at h3
  rcases h3 with h3 | h3
  · exact .inl h3
  · right
    split at h3
    · assumption
    · cases h3
mutual
theorem chkP_ok {X : Cx} {C : Cxt} {N : List Str} {sc : Scope} {fn : Str → Bool} (hn : X.N.Nodup) (hc : X.calm = true) (eN : X.N = N) (es : X.env.scope = sc) (ef : X.fn = fn) : ∀ {p : Pt} {e : Expr}, chkP N sc fn p e = true → TgOk C X p e
  | .nm i, e, h => by
    cases e with
    | Name x pos =>
      obtain ⟨h1, h2⟩ := setB_of eN es ef h
      exact tg_name hn h1.at_ h1.loc h2
    | _ => cases h
  | .tp ps, e, h => by
    cases e with
    | Tuple es' kk pos =>
      obtain ⟨h1, h2, h3⟩ := chkPs_ok (C := C) hn hc eN es ef (ps := ps) (es' := es') h
      exact tg_tup hc h1 h2 h3
    | _ => cases h
theorem chkPs_ok {X : Cx} {C : Cxt} {N : List Str} {sc : Scope} {fn : Str → Bool} (hn : X.N.Nodup) (hc : X.calm = true) (eN : X.N = N) (es : X.env.scope = sc) (ef : X.fn = fn) : ∀ {ps : Pts} {es' : List Expr}, chkPs N sc fn ps es' = true → TgsOk C X ps es' ∧ plainTs es' = true ∧ es'.length = ps.len
  | .nil, [], _ => ⟨tgs_nil, rfl, rfl⟩
  | .nil, _ :: _, h => by cases h
  | .cons p ps, [], h => by cases h
  | .cons p ps, e :: es', h => by
    unfold chkPs at h
    obtain ⟨h1, u2⟩ := ba h
    obtain ⟨h2, h3⟩ := ba u2
    obtain ⟨g1, g2, g3⟩ := chkPs_ok (C := C) hn hc eN es ef h3
    refine ⟨tgs_cons (chkP_ok hn hc eN es ef h1) g1 h2, ?_, ?_⟩
    · unfold plainTs; rw [h2, g2]; rfl
    · show es'.length + 1 = ps.len + 1
      rw [g3]
end
theorem notSet_of {e : Expr} (h : notSet e = true) (env : Env) : ∀ v, foldedSetIterable e env v = pure v := by
  intro v
  cases e <;> first | rfl | cases h
end Dm
namespace Dm
open PySem PySem.Spec PyProof.Rows L2 LamX HotX
/-! ### a list walked while an exception is handled -/
theorem nmem {h : Heap} {b : Addr} {o : Obj} (e : h.get? b = some o) : b ∉ [h.objs.size] := fun z => Nat.ne_of_lt (Heap.lt_size e) (List.mem_singleton.mp z)
section
variable {prog : Program} {w : World} {A : Around} {E : Value → Shared → Prop} {s : Shared}
theorem list_end_hot {it l x1 : Addr} {i : Nat} {items : Array Value} {Q : Option Value → Shared → Prop} (hot : HotAt A x1 s.heap) (hit : s.heap.IsListIter it l i) (hl : s.heap.IsList l items) (hx : items[i]? = none)
    (hQ : ∀ h', (∀ b o, b ≠ it → s.heap.get? b = some o → h'.get? b = some o) → Q none { s with heap := h' }) : wpAny (model prog w) A (pyNext (.ref it)) Q E s := by
  obtain ⟨hh, o1, vs1, h1, d1, c1⟩ := hot
  obtain ⟨o, ho, hc, hd⟩ := id hit
  obtain ⟨ol, hol, _, nl, hdl⟩ := hl
  have ne : x1 ≠ it := fun z => by
    rw [z, ho] at h1
    cases h1
    rw [hd] at d1
    cases d1
    simp at c1
  unfold pyNext
  refine wpAny_bind (wpAny_attempt (wpAny_callSpecial?_slot (name := Str.ofString "__next__") hit.typeIs slot_listiter_next
    (wpAny_call_entry slot_listiter_next hit.typeIs entry_listiter_next ?_ (args_listiter_next _))))
  show wpAny _ _ (field (.ref it) 0 >>= _) _ _ s
  refine wpAny_bind (wpAny_field ho hd (x := .ref l) rfl ?_)
  show wpAny _ _ (if (Value.ref l == Value.none) = true then _ else _) _ _ s
  rw [if_neg (show ¬ ((Value.ref l == Value.none) = true) from Bool.false_ne_true)]
  show wpAny _ _ (field (.ref it) 1 >>= _) _ _ s
  refine wpAny_bind (wpAny_field ho hd (x := .int i 0) rfl ?_)
  show wpAny _ _ (seqItems? (.ref l) >>= _) _ _ s
  refine wpAny_bind (wpAny_seqItems hol hdl ?_)
  simp only [Int.toNat_natCast, hx]
  refine wpAny_bind (wpAny_rule (wpAny_bind (wpAny_setField ho hd (by simp) ?_)))
  have up : ∀ b o, b ≠ it → s.heap.get? b = some o → (s.heap.update it (Obj.mapFields (·.setIfInBounds 0 .none))).get? b = some o := fun b o nb e => by
    rw [Heap.get?_update_other _ _ (Ne.symm nb)]; exact e
  show wpAny _ _ (newExc (.type "StopIteration") [] >>= _) _ _ _
  refine wpAny_bind ?_
  simp only [newExc, newTuple]
  refine wpAny_bind (wpAny_newObj_type ?_ (by size_fits))
  refine wpAny_bind (m := firstArgMember _ _) (wpAny_of_eq (a := Value.none) (by first | rfl | (simp only [firstArgMember]; rfl)) ?_)
  refine wpAny_newObj_type ?_ (by size_fits)
  refine raiseNew_hot ⟨hh, o1, vs1, Heap.get?_push_of_some _ (Heap.get?_push_of_some _ (up _ _ ne h1)), d1, c1⟩ (Nat.ne_of_lt (Heap.lt_size (Heap.get?_push_of_some _ (up _ _ ne h1)))) (Heap.get?_push_size _ rfl) rfl (by first | (simp; done) | (simp; omega) | (simp only [Array.size_append]; simp; omega)) ?_
  refine wpAny_bind (wpAny_isInstance (T := "StopIteration") (b := true) ⟨_, Heap.get?_update_self _ (Heap.get?_push_size _ rfl) rfl, rfl⟩ isSubtype_stop ?_)
  refine wpAny_pure (hQ _ fun b o nb e => ?_)
  rw [Heap.get?_update_other _ _ (Nat.ne_of_gt (Heap.lt_size (Heap.get?_push_of_some _ (up _ _ nb e))))]
  exact Heap.get?_push_of_some _ (Heap.get?_push_of_some _ (up _ _ nb e))
theorem walks_hot (I ax x1 : Addr) (hne : ax ≠ I) (hn1 : x1 ≠ I) (items : Array Value) :
    Walks prog w A I [I, ax, x1] [I] items.size (fun i v => items[i]? = some v) (fun i h => h.IsListIter I ax i ∧ h.IsList ax items ∧ HotAt A x1 h) where
  sub := fun b hb => by simp at hb; simp [hb]
  frame := fun _ _ _ st hk => ⟨st.1.at fun o e => hk I (by simp) o e, st.2.1.at fun o e => hk ax (by simp) o e, by
    obtain ⟨hh, o1, vs1, h1, d1, c1⟩ := st.2.2
    exact ⟨hh, o1, vs1, hk x1 (by simp) _ h1, d1, c1⟩⟩
  item := fun i s Q E hi st hQ => by
    refine wpAny_pyNext_list_item st.1 st.2.1 (x := items[i]) (by simp [hi]) fun h' hit' hs' => ?_
    obtain ⟨hh, o1, vs1, h1, d1, c1⟩ := st.2.2
    exact hQ _ h' s.toks (by simp [hi]) ⟨hit', st.2.1.extBut hs'.extBut hne, hh, o1, vs1, hs'.extBut _ _ hn1 h1, d1, c1⟩ fun b o hb e => hs'.extBut b o (fun h => hb (by simp [h])) e
  done := fun s Q E st hQ => list_end_hot st.2.2 st.1 st.2.1 (by simp) fun h' he' => hQ h' s.toks fun b o hb e => he' b o (fun h => hb (by simp [h])) e
  self := fun _ _ _ _ st hQ => wpAny_pyIter_listiter st.1 hQ
/-- the iterator of a list, made while an exception is handled -/
theorem iter_hot {l x1 : Addr} {items : Array Value} {Q : Value → Shared → Prop} (hot : HotAt A x1 s.heap) (hl : s.heap.IsList l items)
    (h : ∀ s₂ : Shared, s₂ = { s with heap := s.heap.push { cls := .type "list_iterator", data := .fields #[.ref l, .int 0 0] } } → Walks prog w A s.heap.objs.size [s.heap.objs.size, l, x1] [s.heap.objs.size] items.size (fun i v => items[i]? = some v) (fun i h => h.IsListIter s.heap.objs.size l i ∧ h.IsList l items ∧ HotAt A x1 h) →
      (s₂.heap.IsListIter s.heap.objs.size l 0 ∧ s₂.heap.IsList l items ∧ HotAt A x1 s₂.heap) → (∀ b ∈ [s.heap.objs.size, l, x1], b < s₂.heap.objs.size) → Q (.ref s.heap.objs.size) s₂) : wpAny (model prog w) A (pyIter (.ref l)) Q E s := by
  have hlt : l < s.heap.objs.size := by obtain ⟨_, e, _⟩ := hl; exact Heap.lt_size e
  obtain ⟨hh, o1, vs1, h1, d1, c1⟩ := hot
  have hlt1 : x1 < s.heap.objs.size := Heap.lt_size h1
  refine wpAny_pyIter_list hl (h _ rfl (walks_hot _ _ _ (Nat.ne_of_lt hlt) (Nat.ne_of_lt hlt1) _) ⟨⟨_, Heap.get?_push_size _ rfl, rfl, rfl⟩, hl.push _, hh, o1, vs1, Heap.get?_push_of_some _ h1, d1, c1⟩ (fun b hb => ?_))
  show b < (s.heap.push _).objs.size
  rw [Heap.size_push]
  simp only [List.mem_cons, List.not_mem_nil, or_false] at hb
  rcases hb with rfl | rfl | rfl
  · exact Nat.lt_succ_self _
  · exact Nat.lt_succ_of_lt hlt
  · exact Nat.lt_succ_of_lt hlt1
/-- sum of a list of ints there -/
theorem sum_hot {l x1 : Addr} {its : List Value} {ns : List Int} {Q : Value → Shared → Prop} (hot : HotAt A x1 s.heap) (hl : s.heap.IsList l its.toArray) (hi : IntsAre its ns)
    (h : ∀ h' tk t', (∀ b o, s.heap.get? b = some o → h'.get? b = some o) → Q (.int ns.sum t') { s with heap := h', toks := tk }) : wpAny (model prog w) A (call (.builtin "sum") [.ref l]) Q E s := by
  obtain ⟨xs, e⟩ := hi.allInts.items
  have hn : numsOf (intItems xs).toList = ns := by rw [← e]; exact hi.numsOf
  rw [nums_intItems] at hn
  rw [e] at hl
  refine call_sum_walkG (iter_hot (A := A.in1) hot hl fun s₂ es W st hfp => ?_)
  subst es
  refine ⟨_, _, _, _, _, _, numAt xs, rfl, W, st, hfp, (fun _ _ => intItems_at), fun h' tk t' hk => ?_⟩
  have := h h' tk t' fun b o e => hk b o (nmem e) (Heap.get?_push_of_some _ e)
  rw [show (intItems xs).size = xs.size from by simp [intItems], preSum_eq, List.take_of_length_le (by simp), hn]
  exact this
end
theorem ints_of : ∀ (bs : List Bool) {vs us : List Value}, Paired (fun (v u : Value) => ∃ b t, v = .bool b ∧ u = .int (if b then 1 else 0) t) vs us → vs.length = bs.length → (∀ (j : Nat) v, vs[j]? = some v → ∃ b, v = .bool b ∧ bs[j]? = some b) → IntsAre us (bs.map fun b => if b then (1 : Int) else 0)
  | [], vs, us, h, hl, _ => by
    cases h with
    | nil => exact .nil
    | cons => simp at hl
  | b :: bs, vs, us, h, hl, hb => by
    cases h with
    | nil => simp at hl
    | @cons v u vs us r t =>
      obtain ⟨b', t', e1, e2⟩ := r
      obtain ⟨b2, e3, e4⟩ := hb 0 v rfl
      simp at e4
      subst e4 e3
      cases e1
      subst e2
      exact .cons _ _ (ints_of bs t (by simpa using hl) fun j v hj => hb (j + 1) v (by simpa using hj))
section
variable {X : Cx}
/-- sum([int(y) for y in x]), x a list of bools -/
theorem pe_sumFlags {i : Nat} {x y : Str} {p1 p2 p3 p4 p5 p6 p7 p8 : Pos} {scope : Scope} (hc : L2H.HotC X) (hg : Gl X "sum") (hm : X.mg "sum" = none) (hmi : X.mg "int" = none) (hN : X.N[i]? = some x) (hv : Vis X.env.scope x) (hd : (x == ("__debug__" : Str)) = false) (hcd : (x == ("__classdict__" : Str)) = false)
    (hk : scope.kind = .function) (hnf : ∀ z ∈ scope.names, z.2 ≠ .free) (hnc : ∀ z ∈ scope.names, z.2 ≠ .cell) (hnl : ∀ z ∈ scope.names, z.2 = .local → scope.names.lookup z.1 = some .local) (hy : scope.names.lookup y = some .local) (hi : scope.names.lookup ("int" : Str) = some .globalImplicit) (hyd : (y == ("__debug__" : Str)) = false) (hyc : (y == ("__classdict__" : Str)) = false) (hyi : (y == ("int" : Str)) = false) :
    PE X (.Call (.Name "sum" p1) [.ListComp (.Call (.Name "int" p2) [.Name y p3] [] p4) [⟨.Name y p5, .Name x p6, [], 0⟩] scope p7] [] p8)
      (fun σ H Q => ∃ (l : Addr) (bs : List Bool), σ[i]? = some (some (.ref l)) ∧ H l = some (.lst (bs.map V.bl)) ∧ Q (.int (bs.map fun b => if b then (1 : Int) else 0).sum) H) := by
  refine ⟨fun pins s σ H Q I h => ?_⟩
  obtain ⟨l, bs, e1, e2, q⟩ := h
  obtain ⟨x1, hot⟩ := hc.at I
  refine wpAny_Call_Name_kw (ld_blt I hg hm (Bt.boot .sum) ?_)
  refine PyProof.Rows.callWith_builtin1 ?_ (by rfl) (by rfl)
  show wpAny _ _ (spliced ((false, eval (.ListComp (.Call (.Name "int" p2) [.Name y p3] [] p4) [⟨.Name y p5, .Name x p6, [], 0⟩] scope p7) X.env) :: backTo p8 (starEach [] X.env))) _ _ s
  obtain ⟨its, rv, hl, hz⟩ := I.list (SqL.of (K := X.K) e2)
  have hcl : closureFor scope X.env = pure (cloFrom X.env.cells scope.names []) := closure_ok fun z hz e => absurd e (hnf z hz)
  refine Calls.spliced_cons (wpAny_ListComp_free (fun _ => true) (fun v u => ∃ b t, v = .bool b ∧ u = .int (if b then 1 else 0) t) hcl hnc hk hnl hy ?_)
  refine thn ((pe_var (pos := p6) hN hv hd hcd).run pins s σ H (fun v H1 => v = .ref l ∧ H1 = H) I ⟨_, e1, rfl, rfl⟩) fun xv s1 ⟨v, H1, I1, r1, ev, eH⟩ => ?_
  subst ev eH
  obtain rfl : xv = .ref l := r1
  obtain ⟨its1, rv1, hl1, hz1⟩ := I1.list (SqL.of (K := X.K) e2)
  obtain ⟨x2, hot1⟩ := hc.at I1
  have isb : ∀ (j : Nat) v, its1.toArray[j]? = some v → ∃ b, v = .bool b ∧ bs[j]? = some b := fun j v hj => by
    have hj' : its1[j]? = some v := by simpa using hj
    clear hl1
    clear hz1 e2
    have key : ∀ (bs : List Bool) (us : List Value) (j : Nat), Vals (bs.map V.bl) us → us[j]? = some v → ∃ b, v = .bool b ∧ bs[j]? = some b := by
      intro bs
      induction bs with
      | nil => intro us j r e; cases r; simp at e
      | cons b bs ih =>
        intro us j r e
        cases r with
        | cons r rr =>
          cases j with
          | zero => simp at e; subst e; exact ⟨b, r, rfl⟩
          | succ j => simpa using ih _ j rr (by simpa using e)
    exact key bs its1 j rv1 hj'
  refine iter_hot hot1 hl1.isList fun s2 es2 W st hfp => ?_
  have k2 : ∀ b o, s1.heap.get? b = some o → s2.heap.get? b = some o := fun b o e => by rw [es2]; exact Heap.get?_push_of_some _ e
  refine ⟨_, _, _, _, _, _, rfl, W, by rw [List.size_toArray, ← rv1.length]; exact hz1, st, hfp, ⟨fun C i v s3 m3 E' _ _ _ _ _ _ => ?_, fun C j v s3 m3 E' hC hP _ hn hmv hk3 _ => ?_⟩, fun D h' tk ys vs hDn hys hpl hlen hPs hF hk' => ?_⟩
  · exact wpAny_tests_nil ⟨rfl, s3.heap, s3.toks, rfl, fun b o e => e⟩
  · obtain ⟨b, rfl, _⟩ := isb j v hP
    have k3 : ∀ b o, s1.heap.get? b = some o → s3.heap.get? b = some o := fun b o e => hk3 b o (nmem e) (k2 b o e)
    have bk : ∀ b o, X.base.get? b = some o → s3.heap.get? b = some o := fun b o e => k3 b o (I1.bk b o e)
    obtain ⟨mb, g1, g2⟩ := I1.ok.mod.blt
    have kd : (compEnvC scope (cloFrom X.env.cells scope.names []) C X.env).scope.kind = .function := hk
    have kl : (compEnvC scope (cloFrom X.env.cells scope.names []) C X.env).kindOf y = some .local := lookup_relabel_local hy
    have ki : (compEnvC scope (cloFrom X.env.cells scope.names []) C X.env).kindOf "int" = some .globalImplicit := look_glob hi
    refine wpAny_Call_Name_kw (Calls.Name_function_global kd ki (Calls.loadGlobal_builtin (by show s3.heap.Ns X.env.globals X.mg; rw [I1.ok.glob]; exact I1.ok.mod.glob.keeps bk) hmi (by show s3.heap.Ns X.env.builtins mb; rw [I1.ok.blt]; exact g1.keeps bk) ((g2 "int" (by decide)).trans (Bt.boot .int)) ?_) (by decide))
    refine PyProof.Rows.callWith_type1 ?_ (by rfl) (by rfl)
    show wpAny _ _ (spliced ((false, eval (.Name y p3) (compEnvC scope (cloFrom X.env.cells scope.names []) C X.env)) :: backTo p4 (starEach [] _))) _ _ s3
    refine Calls.spliced_cons (wpAny_Name (wpAny_loadName_local kd kl hn hmv (Calls.spliced_nil ?_)) hyd)
    exact call_int_bool ⟨⟨b, _, rfl, rfl⟩, s3.heap, _, rfl, fun b o e => e⟩
  · -- the sum of what came
    refine Calls.spliced_nil ?_
    have hk1 : ∀ b o, s1.heap.get? b = some o → h'.get? b = some o := fun b o e => hk' b o (nmem e) (k2 b o e)
    have hot2 : HotAt X.A x2 h' := by
      obtain ⟨hh, o1, vs1, g1, d1, c1⟩ := hot1
      exact ⟨hh, o1, vs1, hk1 _ _ g1, d1, c1⟩
    have hints : IntsAre ys.toList (bs.map fun b => if b then (1 : Int) else 0) := by
      have hlb : its1.length = bs.length := by rw [← rv1.length, List.length_map]
      have hvl : vs.length = bs.length := by rw [hlen]; simpa using hlb
      have hvs : vs.filter (fun _ => true) = vs := by simp
      rw [hvs] at hF
      have hvb : ∀ (j : Nat) v, vs[j]? = some v → ∃ b, v = .bool b ∧ bs[j]? = some b := fun j v hj => isb j v (hPs j v hj)
      exact ints_of bs hF hvl hvb
    have e2' : s2 = { s1 with heap := s2.heap } := by rw [es2]
    rw [e2']
    refine sum_hot (s := { s1 with heap := h', toks := tk }) hot2 (by simpa using hys) hints fun h'' tk2 t' hk2 => ?_
    exact ⟨.int _, _, I1.kept (t' := tk2) fun b o e => hk2 b o (hk1 b o e), ⟨_, rfl⟩, q⟩
where
  look_glob {x : Str} {env : Env} {names : List (Str × NameKind)} (h : names.lookup x = some .globalImplicit) : (names.map fun (n, k) => if (k == NameKind.free && env.scope.kind == .function && env.kindOf n == some .cell) then (n, NameKind.cell) else (n, k)).lookup x = some .globalImplicit := by
    induction names with
    | nil => simp at h
    | cons a r ih =>
      obtain ⟨n, k⟩ := a
      rw [List.map_cons]
      by_cases hx : x = n
      · subst hx
        simp only [List.lookup_cons, beq_self_eq_true, Option.some.injEq] at h
        subst h
        simp [List.lookup_cons]
      · have hb : (x == n) = false := by simpa using hx
        rw [List.lookup_cons, hb] at h
        have := ih h
        show List.lookup x ((if (k == NameKind.free && env.scope.kind == .function && env.kindOf n == some .cell) = true then (n, NameKind.cell) else (n, k)) :: _) = _
        by_cases hc : (k == NameKind.free && env.scope.kind == .function && env.kindOf n == some .cell) = true
        · rw [if_pos hc, List.lookup_cons, hb]; exact this
        · rw [if_neg hc, List.lookup_cons, hb]; exact this
end
end Dm
namespace Dm
open PySem PySem.Spec PyProof.Rows L2 LamX HotX L2H
def exnAll : List Exn := [.table, .number, .size, .story, .place, .count, .numbering, .answer, .text, .clash, .found, .toolong, .toolarge, .nothing]
/-- what is known of the classes, for an exception c in a suite -/
structure KitOk (K : PySem.W.Frag) (mg : Str → Option Value) (exa : Exn → Addr) (c : Exn) : Prop where
  ec : ExcC K (exa c)
  one : ∀ k, PySem.W.kitOne K (.ref (exa c)) (.ref (exa k)) = some (decide (c = k))
  ve : PySem.W.kitOne K (.ref (exa c)) (.type "ValueError") = some true
/-! ### a def called in a suite, told of the very exception -/
theorem run_hot {CX : CXT} {P : Program} {w : World} {K : PySem.W.Frag} {mg : Str → Option Value} {base : Heap} {k : Nat} {f : Addr} {name qual : Str} {params : Arguments} {body : List Stmt} {scope : Scope} {dV kV doc pm cdv ct oc : Value} {an od : Option Addr}
    {osl : Array (Option Value)} {N ps : List Str} (lk : K.lookup f = some ⟨oc, od, .func (PySem.W.fnOf name qual params body scope dV kV doc pm an cdv ct), osl⟩) (hcd : PySem.W.codeIn K cdv qual = true) (S : FnScope N ps scope)
    {A : Around} {outer : List Env} {s : Shared} {H : Hp} {args : Args} {us : List Value} {vs : List V} {Q : VK} {E : XK} {p : Addr × Obj} (hr : RoomH (k + 1) A) (hpin : PinOk outer H s p) (e0 : Env0 P w K mg base A outer s H)
    (hb : BindsTo s (PySem.W.fnOf name qual params body scope dV kV doc pm an cdv ct) args (ps.zip us)) (r : Vals vs us) (hl : vs.length = ps.length)
    (hbody : RoomH k (A.deeper (envOfC qual scope s.heap.objs.size f cdv)) → ∃ t, PSs (cxH CX P w K mg base N qual scope f cdv A outer s H E p) body t ∧ t { nx := fun _ H' => Q .non H', rt := Q } (L2.start N vs) H) :
    codeAny (model P w) A (.call (.ref f) args) (CR CX outer P w H s Q E) s := by
  have KX : K.In s.heap := e0.mod.kin.keeps fun b o e => (e0.bs b o e).1
  have lim : s.heap.NoLimit := e0.mod.nolimit.keeps fun b o e => (e0.bs b o e).1
  have hkind : ∀ y ∈ ps.zip us, scope.names.lookup y.1 = some .local ∨ (scope.names.lookup y.1 = some .cell ∧ ((cellsFrom (s.heap.objs.size + 1) scope.names []).lookup y.1).isSome = true) := fun ⟨n, v⟩ hy => by
    rcases S.par n (List.of_mem_zip hy).1 with q | q
    · exact .inl q
    · exact .inr ⟨q, PySem.W.cellsFrom_some _ _ _ (.inl q)⟩
  refine codeAny_call_function hr.depth (KX _ _ lk) rfl S.co S.gen rfl (PySem.W.codeRec_of KX hcd) (hb _ _ _ _ ?_)
  refine wpAny_newFunctionEnv_cells S.kind hkind fun env he s1 x => ?_
  subst he
  refine ⟨lim.keeps x.toInCall.keep, codeAny_func ?_⟩
  obtain ⟨t, ht, hq⟩ := hbody (hr.deeper _)
  have I : Inv (cxH CX P w K mg base N qual scope f cdv A outer s H E p) [] (L2.start N vs) H s1 := inv_startH S hpin e0 hl r x
  refine wpAny_mono (ht.run [] s1 (L2.start N vs) H _ I hq) (fun fl s' hs => ?_) fun e s' hs => hs
  cases fl with
  | ret u =>
    obtain ⟨v, σ', H', J, rv, q⟩ := hs
    exact ⟨v, H', J.os, J.bare, J.base, J.hok, rv, q⟩
  | next =>
    obtain ⟨σ', H', J, q⟩ := hs
    exact ⟨V.non, H', J.os, J.bare, J.base, J.hok, rfl, q⟩
  | brk =>
    obtain ⟨_, _, _, q⟩ := hs
    exact False.elim q
  | cont =>
    obtain ⟨_, _, _, q⟩ := hs
    exact False.elim q
section
variable {Y : Cx} {a : Addr} {oe : Obj} {exa : Exn → Addr} {c : Exn}
theorem isE_hot (ec : ExcC Y.K (exa c)) (hp : (a, oe) ∈ Y.pn) (hz : L2N.Zn (.ref (exa c)) none oe) (hf : ∃ vs, oe.data = .fields vs) : CallR Y (.builtin "isinstance") (rIsE Y.K (exa c) a) := by
  intro pins s σ H xs us Q I r h
  obtain ⟨cc, cv, b, rfl, hcv, e, q⟩ := h
  obtain ⟨u1, u2, rfl, r1, r2⟩ := vals2 r
  obtain rfl : u1 = .ref a := r1
  have ec2 := hcv _ r2
  subst ec2
  obtain ⟨hget, _⟩ := I.pin (a, oe) (List.mem_append_left _ hp)
  obtain ⟨vs, hv⟩ := hf
  have J : PySem.W.InstAt s.heap a oe (exa c) none := by
    obtain ⟨oc, od, oda, osl⟩ := oe
    obtain ⟨h1, h2, _⟩ := hz
    dsimp only at h1 h2 hv
    subst h1 h2 hv
    exact ⟨hget, rfl, rfl, trivial⟩
  exact PySem.W.kia_one (PySem.W.handS_kitx_exc ec.hg ec.hk ec.hs ec.hd ec.ha ec.hn ec.ht ec.hm) I.kIn J e (fun z => nomatch z) fun tk => ⟨.bl b, H, I.kept (t' := tk) fun _ _ z => z, rfl, q⟩
/-! ### the text of _law_term -/
/-- isinstance(e, K) for each of ks -/
def elB (sc : Scope) : List Exn → List Expr → Bool
  | [], [] => true
  | k :: ks, .Call (.Name f _) [.Name x _, .Name y _] [] _ :: es => decide (f = "isinstance") && (decide (x = "_law_e") && (decide (y = k.cname) && (glB sc y && elB sc ks es)))
  | _, _ => false
def ksB : List Exn → List Expr → Bool
  | [], [] => true
  | k :: ks, .Constant (.str x) _ _ :: es => decide (x = k.cname) && ksB ks es
  | _, _ => false
/-- the context of the body -/
structure TmX (Y : Cx) (a : Addr) (oe : Obj) (exa : Exn → Addr) (c : Exn) : Prop where
  N : Y.N = (["_law_e", "_law_flags", "_law_kinds"] : List Str)
  pin : (a, oe) ∈ Y.pn
  hot : HotC Y
  kit : KitOk Y.K Y.mg exa c
  mg : ∀ k : Exn, Y.mg k.cname = some (.ref (exa k))
  zn : L2N.Zn (.ref (exa c)) none oe
  fl : ∃ vs, oe.data = .fields vs
  isi : Y.mg "isinstance" = none
  un : Y.A.units + 65 < cLine
abbrev flagV (c : Exn) (ks : List Exn) : List Bool := ks.map fun k => decide (c = k)
theorem cname_nd (k : Exn) : (k.cname == ("__debug__" : Str)) = false := by cases k <;> decide
theorem pe_isK {k : Exn} {p1 p2 p3 p4 : Pos} (t : TmX Y a oe exa c) (hv : Vis Y.env.scope "_law_e") (hgi : Gl Y "isinstance") (hg : Gl Y k.cname) :
    PE Y (.Call (.Name "isinstance" p1) [.Name "_law_e" p2, .Name k.cname p3] [] p4) (fun σ H Q => σ[0]? = some (some (.ref a)) ∧ Q (.bl (decide (c = k))) H) := by
  refine ⟨fun pins s σ H Q I h => ?_⟩
  obtain ⟨h1, h2⟩ := h
  refine (pe_callB (isE_hot t.kit.ec t.pin t.zn t.fl) hgi t.isi boot_isi (pa_cons (pe_var (i := 0) (by rw [t.N]; rfl) hv) (pa_cons (pe_glob (v := .ref (exa k)) hg (t.mg k) rfl (cname_nd k)) pa_nil))).run pins s σ H Q I ?_
  exact ⟨_, h1, .ref (exa k), .ref (exa k), decide (c = k), rfl, fun u hu => hu, t.kit.one k, h2⟩
theorem pa_flags (t : TmX Y a oe exa c) (hv : Vis Y.env.scope "_law_e") (hgi : Gl Y "isinstance") : ∀ {ks : List Exn} {es : List Expr}, elB Y.env.scope ks es = true → PA Y es (fun σ H Q => σ[0]? = some (some (.ref a)) ∧ Q ((flagV c ks).map V.bl) H)
  | [], [], _ => ⟨fun pos pins s σ H Q I h => pa_nil.run pos pins s σ H Q I h.2⟩
  | [], _ :: _, h => by cases h
  | k :: ks, [], h => by cases h
  | k :: ks, e :: es, h => by
    unfold elB at h
    split at h
    · rename_i e1 e2; cases e1
    · rename_i k' ks' f p1 x p2 y p3 p4 es' hk he
      cases hk
      cases he
      obtain ⟨h1, u2⟩ := ba h
      obtain ⟨h2, u3⟩ := ba u2
      obtain ⟨h3, u4⟩ := ba u3
      obtain ⟨h4, h5⟩ := ba u4
      cases of_decide_eq_true h1
      cases of_decide_eq_true h2
      cases of_decide_eq_true h3
      refine ⟨fun pos pins s σ H Q I h => ?_⟩
      exact (pa_cons (pe_isK t hv hgi (glB_of rfl h4)) (pa_flags t hv hgi h5) rfl).run pos pins s σ H Q I ⟨h.1, h.1, h.2⟩
    · cases h
theorem pa_kinds : ∀ {ks : List Exn} {es : List Expr}, ksB ks es = true → PA Y es (fun σ H Q => Q (ks.map fun k => V.str k.cname) H)
  | [], [], _ => pa_nil
  | [], _ :: _, h => by cases h
  | k :: ks, [], h => by cases h
  | k :: ks, e :: es, h => by
    unfold ksB at h
    split at h
    · rename_i e1 e2; cases e1
    · rename_i k' ks' x j p es' hk he
      cases hk
      cases he
      obtain ⟨h1, h2⟩ := ba h
      cases of_decide_eq_true h1
      exact pa_cons pe_str (pa_kinds h2) rfl
    · cases h
/-- a new list, or one that is lengthened by a new one -/
def sNew (i : Nat) (pre : St → Prop) (xs : List V) : TS := fun D σ H => pre σ ∧ ∀ p H', Ex H H' → H' p = some (.lst xs) → D.nx (σ.set i (some (.ref p))) H'
def sMore (i : Nat) (pre : St → Prop) (ys : List V) : TS := fun D σ H => pre σ ∧ ∃ l xs, σ[i]? = some (some (.ref l)) ∧ H l = some (.lst xs) ∧ xs.length ≤ 100 ∧ ys.length ≤ 100 ∧ ∀ p H', Ex H H' → H' p = some (.lst (xs ++ ys)) → D.nx (σ.set i (some (.ref p))) H'
theorem ps_new {i : Nat} {x : Str} {es : List Expr} {pre : St → Prop} {xs : List V} {p1 p2 p3 : Pos} (hN : Y.N.Nodup) (hx : Y.N[i]? = some x) (hl : Loc Y.env.scope x) (hfn : Y.fn x = true) (h : PA Y es (fun σ H Q => pre σ ∧ Q xs H)) (hz : xs.length ≤ 100) :
    PS Y (.Assign [.Name x p1] (.List es p2) p3) (sNew i pre xs) := by
  refine ⟨fun pins s σ H D I q => ?_⟩
  refine (ps_set hN hx hl (pe_lst h) (swaps_no rfl _ _ _) (.inl hfn)).run pins s σ H D I ?_
  exact ⟨q.1, by rw [sizeLine_eq]; omega, fun p hp => q.2 p _ (Ex.new hp) upd_same⟩
theorem ps_more {i : Nat} {x : Str} {es : List Expr} {pre : St → Prop} {ys : List V} {p1 p2 p3 p4 p5 : Pos} (hN : Y.N.Nodup) (hx : Y.N[i]? = some x) (hl : Loc Y.env.scope x) (hfn : Y.fn x = true) (hd : (x == ("__debug__" : Str)) = false) (hcd : (x == ("__classdict__" : Str)) = false) (h : PA Y es (fun σ H Q => pre σ ∧ Q ys H)) :
    PS Y (.Assign [.Name x p1] (.BinOp (.Name x p2) .Add (.List es p3) p4) p5) (sMore i pre ys) := by
  refine ⟨fun pins s σ H D I q => ?_⟩
  have hv : Vis Y.env.scope x := hl.elim .inl fun z => .inr (.inl z)
  refine (ps_set hN hx hl (pe_op op_cat (pe_var hx hv hd hcd) (pe_lst h)) (swaps_no rfl _ _ _) (.inl hfn)).run pins s σ H D I ?_
  obtain ⟨q1, l, xs, e1, e2, z1, z2, k⟩ := q
  refine ⟨_, e1, q1, by rw [sizeLine_eq]; omega, fun p hp => ?_⟩
  have ex1 := Ex.new (o := .lst ys) hp
  refine ⟨l, p, xs, ys, rfl, rfl, ex1 _ _ e2, upd_same, by rw [sizeLine_eq]; omega, fun r hr => ?_⟩
  exact k r _ (ex1.tr (Ex.new hr)) upd_same
end
/-! ### the body of _law_term -/
def newB (x : Str) (p : List Expr → Bool) : Stmt → Bool
  | .Assign [.Name f _] (.List a _) _ => decide (f = x) && p a
  | _ => false
theorem newB_ok {x : Str} {p : List Expr → Bool} {s : Stmt} (h : newB x p s = true) : ∃ a p1 p2 p3, s = .Assign [.Name x p1] (.List a p2) p3 ∧ p a = true := by
  unfold newB at h
  split at h
  · obtain ⟨h1, h2⟩ := ba h
    cases of_decide_eq_true h1
    exact ⟨_, _, _, _, rfl, h2⟩
  · cases h
def moreB (x : Str) (p : List Expr → Bool) : Stmt → Bool
  | .Assign [.Name f _] (.BinOp (.Name g _) .Add (.List a _) _) _ => decide (f = x) && (decide (g = x) && p a)
  | _ => false
theorem moreB_ok {x : Str} {p : List Expr → Bool} {s : Stmt} (h : moreB x p s = true) : ∃ a p1 p2 p3 p4 p5, s = .Assign [.Name x p1] (.BinOp (.Name x p2) .Add (.List a p3) p4) p5 ∧ p a = true := by
  unfold moreB at h
  split at h
  · obtain ⟨h1, h2⟩ := ba h
    obtain ⟨h2, h3⟩ := ba h2
    cases of_decide_eq_true h1
    cases of_decide_eq_true h2
    exact ⟨_, _, _, _, _, _, rfl, h3⟩
  · cases h
def sumB (sc : Scope) : Expr → Bool
  | .Compare (.Call (.Name sm _) [.ListComp (.Call (.Name it _) [.Name y1 _] [] _) [⟨.Name y2 _, .Name x2 _, [], z⟩] scp _] [] _) [.NotEq] [.Constant (.int one) _ _] _ =>
    (decide (sm = "sum") && (decide (it = "int") && (decide (x2 = "_law_flags") && (decide (y1 = y2) && (decide (z = 0) && decide (one = 1)))))) &&
    ((scp.names.all fun q => (match q.2 with | .free => false | .cell => false | .local => decide (scp.names.lookup q.1 = some .local) | _ => true)) && ((match scp.kind with | .function => true | _ => false) && (isLocal scp y1 && (glB scp "int" && (!(y1 == ("__debug__" : Str)) && (!(y1 == ("__classdict__" : Str)) && !(y1 == ("int" : Str))))))))
  | _ => false
def notB (sc : Scope) : Expr → Bool
  | .UnaryOp .Not (.Call (.Name is _) [.Name e1 _, .Name ve _] [] _) _ => decide (is = "isinstance") && (decide (e1 = "_law_e") && decide (ve = "ValueError"))
  | _ => false
def ifB (sc : Scope) : Stmt → Bool
  | .If (.BoolOp .Or [e1, e2] _) [.Return (some (.Tuple [.Constant (.str _) _ _, .Constant (.str _) _ _] _ _)) _] [] _ => sumB sc e1 && notB sc e2
  | _ => false
def retB (sc : Scope) : Stmt → Bool
  | .Return (some (.Tuple [.Constant (.str er) _ _, .Subscript (.Name kk _) (.Call (.Attribute (.Name ff _) ixn ap) [.Constant (.bool true) _ _] [] cp) _] _ _)) _ =>
    decide (er = "error") && (decide (kk = "_law_kinds") && (decide (ff = "_law_flags") && (decide (ixn = "index") && (ap.endLine == cp.line))))
  | _ => false
def termB (sc : Scope) : List Stmt → Bool
  | [s1, s2, s3, s4, s5, s6, s7, s8, s9, s10] =>
    newB "_law_flags" (elB sc [.table, .number, .size]) s1 && (moreB "_law_flags" (elB sc [.story, .place, .count]) s2 && (moreB "_law_flags" (elB sc [.numbering, .answer, .text]) s3 && (moreB "_law_flags" (elB sc [.clash, .found, .toolong]) s4 && (moreB "_law_flags" (elB sc [.toolarge, .nothing]) s5 &&
    (newB "_law_kinds" (ksB [.table, .number, .size, .story, .place, .count]) s6 && (moreB "_law_kinds" (ksB [.numbering, .answer, .text, .clash, .found, .toolong]) s7 && (moreB "_law_kinds" (ksB [.toolarge, .nothing]) s8 && (ifB sc s9 && (retB sc s10 &&
    (glB sc "sum" && (glB sc "isinstance" && (glB sc "ValueError" && (isLocal sc "_law_e" && (isLocal sc "_law_flags" && isLocal sc "_law_kinds"))))))))))))))
  | _ => false
end Dm
namespace Dm
open PySem PySem.Spec PyProof.Rows L2 LamX HotX L2H
theorem flags_sum (c : Exn) : ((flagV c exnAll).map fun b => if b then (1 : Int) else 0).sum = 1 := by cases c <;> decide
theorem flags_at (c : Exn) : idxD (.list ((flagV c exnAll).map PyData.bool)) (.bool true) = some (.int ((exnAll.findIdx fun k => decide (c = k) : Nat) : Int)) := by
  cases c <;> rfl
theorem kinds_at (c : Exn) : atI (exnAll.map fun k => V.str k.cname) ((exnAll.findIdx fun k => decide (c = k) : Nat) : Int) = some (.str c.cname) := by
  cases c <;> rfl
section
variable {Y : Cx} {a : Addr} {oe : Obj} {exa : Exn → Addr} {c : Exn}
theorem scp_of {sc : Scope} (h : (sc.names.all fun q => (match q.2 with | .free => false | .cell => false | .local => decide (sc.names.lookup q.1 = some .local) | _ => true)) = true) : (∀ z ∈ sc.names, z.2 ≠ .free) ∧ (∀ z ∈ sc.names, z.2 ≠ .cell) ∧ ∀ z ∈ sc.names, z.2 = .local → sc.names.lookup z.1 = some .local := by
  have key := List.all_eq_true.mp h
  refine ⟨fun z hz e => ?_, fun z hz e => ?_, fun z hz e => ?_⟩
  · have := key z hz; rw [e] at this; cases this
  · have := key z hz; rw [e] at this; cases this
  · have := key z hz; rw [e] at this; exact of_decide_eq_true this
theorem glG_of {sc : Scope} {x : Str} (h : glB sc x = true) : sc.names.lookup x = some .globalImplicit := by
  unfold glB at h
  split at h
  · assumption
  · cases h
theorem term_run {sc : Scope} {body : List Stmt} (t : TmX Y a oe exa c) (hs : Y.env.scope = sc) (h : termB sc body = true) (hfn : ∀ x, Y.fn x = true) (m1 : Y.mg "sum" = none) (m2 : Y.mg "int" = none) (m3 : Y.mg "ValueError" = none) :
    ∃ tt, PSs Y body tt ∧ ∀ (D : Ends) (H : Hp), (∀ p H', Ex H H' → H p = none → H' p = some (.tup [.str "error", .str c.cname]) → D.rt (.ref p) H') → tt D [some (.ref a), none, none] H := by
  subst hs
  unfold termB at h
  split at h
  rotate_left
  · cases h
  obtain ⟨h1, h⟩ := ba h
  obtain ⟨h2, h⟩ := ba h
  obtain ⟨h3, h⟩ := ba h
  obtain ⟨h4, h⟩ := ba h
  obtain ⟨h5, h⟩ := ba h
  obtain ⟨h6, h⟩ := ba h
  obtain ⟨h7, h⟩ := ba h
  obtain ⟨h8, h⟩ := ba h
  obtain ⟨h9, h⟩ := ba h
  obtain ⟨h10, hg⟩ := ba h
  obtain ⟨a1, _, _, _, rfl, c1⟩ := newB_ok h1
  obtain ⟨a2, _, _, _, _, _, rfl, c2⟩ := moreB_ok h2
  obtain ⟨a3, _, _, _, _, _, rfl, c3⟩ := moreB_ok h3
  obtain ⟨a4, _, _, _, _, _, rfl, c4⟩ := moreB_ok h4
  obtain ⟨a5, _, _, _, _, _, rfl, c5⟩ := moreB_ok h5
  obtain ⟨a6, _, _, _, rfl, d1⟩ := newB_ok h6
  obtain ⟨a7, _, _, _, _, _, rfl, d2⟩ := moreB_ok h7
  obtain ⟨a8, _, _, _, _, _, rfl, d3⟩ := moreB_ok h8
  obtain ⟨g1, g2⟩ := ba hg
  obtain ⟨g2, g3⟩ := ba g2
  obtain ⟨g3, g4⟩ := ba g3
  obtain ⟨g4, g5⟩ := ba g4
  obtain ⟨g5, g6⟩ := ba g5
  have nd : Y.N.Nodup := by rw [t.N]; decide
  have n0 : Y.N[0]? = some ("_law_e" : Str) := by rw [t.N]; rfl
  have n1 : Y.N[1]? = some ("_law_flags" : Str) := by rw [t.N]; rfl
  have n2 : Y.N[2]? = some ("_law_kinds" : Str) := by rw [t.N]; rfl
  have v0 : Vis Y.env.scope "_law_e" := .inl (isLocal_of g4)
  have l1 : Loc Y.env.scope "_law_flags" := .inl (isLocal_of g5)
  have l2 : Loc Y.env.scope "_law_kinds" := .inl (isLocal_of g6)
  have gi : Gl Y "isinstance" := glB_of rfl g2
  have hu := t.un
  have pz : ∀ ks : List Exn, ((flagV c ks).map V.bl).length = ks.length := fun ks => by simp
  -- the test
  unfold ifB at h9
  split at h9
  rotate_left
  · cases h9
  obtain ⟨i9, j9⟩ := ba h9
  unfold sumB at i9
  split at i9
  rotate_left
  · cases i9
  unfold notB at j9
  split at j9
  rotate_left
  · cases j9
  unfold retB at h10
  split at h10
  rotate_left
  · cases h10
  obtain ⟨hE, hF⟩ := ba i9
  obtain ⟨e1, e2⟩ := ba hE
  obtain ⟨e2, e3⟩ := ba e2
  obtain ⟨e3, e4⟩ := ba e3
  obtain ⟨e4, e5⟩ := ba e4
  obtain ⟨e5, e6⟩ := ba e5
  obtain ⟨e7, e8⟩ := ba j9
  obtain ⟨e8, e9⟩ := ba e8
  obtain ⟨e10, e11⟩ := ba h10
  obtain ⟨e11, e12⟩ := ba e11
  obtain ⟨e12, e13⟩ := ba e12
  obtain ⟨e13, e14⟩ := ba e13
  obtain ⟨f1, f2⟩ := ba hF
  obtain ⟨f2, f3⟩ := ba f2
  obtain ⟨f3, f4⟩ := ba f3
  obtain ⟨f4, f5⟩ := ba f4
  obtain ⟨f5, f6⟩ := ba f5
  obtain ⟨f6, f7⟩ := ba f6
  obtain ⟨s1, s2, s3⟩ := scp_of f1
  have hk2 : ∀ {s : Scope}, (match s.kind with | .function => true | _ => false) = true → s.kind = .function := fun {s} h => by
    split at h
    · assumption
    · cases h
  have hkind := hk2 f2
  cases of_decide_eq_true e1
  cases of_decide_eq_true e2
  cases of_decide_eq_true e3
  cases of_decide_eq_true e4
  cases of_decide_eq_true e5
  cases of_decide_eq_true e6
  cases of_decide_eq_true e7
  cases of_decide_eq_true e8
  cases of_decide_eq_true e9
  cases of_decide_eq_true e10
  cases of_decide_eq_true e11
  cases of_decide_eq_true e12
  cases of_decide_eq_true e13
  refine ⟨_, pss_cons (ps_new (i := 1) (pre := fun σ => σ[0]? = some (some (.ref a))) nd n1 l1 (hfn _) (pa_flags t v0 gi c1) (by rw [pz]; decide))
    (pss_cons (ps_more (i := 1) (pre := fun σ => σ[0]? = some (some (.ref a))) nd n1 l1 (hfn _) (by decide) (by decide) (pa_flags t v0 gi c2))
    (pss_cons (ps_more (i := 1) (pre := fun σ => σ[0]? = some (some (.ref a))) nd n1 l1 (hfn _) (by decide) (by decide) (pa_flags t v0 gi c3))
    (pss_cons (ps_more (i := 1) (pre := fun σ => σ[0]? = some (some (.ref a))) nd n1 l1 (hfn _) (by decide) (by decide) (pa_flags t v0 gi c4))
    (pss_cons (ps_more (i := 1) (pre := fun σ => σ[0]? = some (some (.ref a))) nd n1 l1 (hfn _) (by decide) (by decide) (pa_flags t v0 gi c5))
    (pss_cons (ps_new (i := 2) (pre := fun _ => True) nd n2 l2 (hfn _) (pa_true (pa_kinds d1)) (by simp))
    (pss_cons (ps_more (i := 2) (pre := fun _ => True) nd n2 l2 (hfn _) (by decide) (by decide) (pa_true (pa_kinds d2)))
    (pss_cons (ps_more (i := 2) (pre := fun _ => True) nd n2 l2 (hfn _) (by decide) (by decide) (pa_true (pa_kinds d3)))
    (pss_cons (ps_if (PW.pt (pw_or (pt_cmpR op_ne (pe_sumFlags (i := 1) t.hot (glB_of rfl g1) m1 m2 n1 (l1.elim .inl fun z => .inr (.inl z)) (by decide) (by decide) hkind s1 s2 s3 (isLocal_of f3) (glG_of f4) (bn f5) (bn f6) (bn f7)) pe_int rfl)
        (pw_or1 (pt_not (pt_val (pe_callB (isE_hot t.kit.ec t.pin t.zn t.fl) gi t.isi boot_isi (pa_cons (pe_var (i := 0) n0 v0) (pa_cons (pe_bltn (v := .ty "ValueError") (u := .type "ValueError") (glB_of rfl g3) m3 (by decide +kernel) rfl) pa_nil)))))))) (pss_one (ps_ret (pe_tup (pa_cons pe_str (pa_cons pe_str pa_nil))))) pss_nil)
    (pss_one (ps_ret (pe_tup (pa_cons pe_str (pa_cons (pe_ix ix_list (pe_var (i := 2) n2 (l2.elim .inl fun z => .inr (.inl z))) (pe_bm PySem.F.plainAttrs_list PySem.F.slot_list_index PySem.F.type_list_index (mt_idx hu) (pe_var (i := 1) n1 (l1.elim .inl fun z => .inr (.inl z))) (pa_cons pe_bl pa_nil) rfl (by rfl) e14) (fun _ _ => rfl)) pa_nil))))))))))))), ?_⟩
  intro D H k
  -- the flags
  refine ⟨rfl, fun p1 H1 x1 y1 => ⟨rfl, p1, _, rfl, y1, (by rw [pz]; decide), (by rw [pz]; decide), fun p2 H2 x2 y2 => ?_⟩⟩
  rw [← List.map_append] at y2
  refine ⟨rfl, p2, _, rfl, y2, (by simp), (by rw [pz]; decide), fun p3 H3 x3 y3 => ?_⟩
  rw [← List.map_append] at y3
  refine ⟨rfl, p3, _, rfl, y3, (by simp), (by rw [pz]; decide), fun p4 H4 x4 y4 => ?_⟩
  rw [← List.map_append] at y4
  refine ⟨rfl, p4, _, rfl, y4, (by simp), (by rw [pz]; decide), fun p5 H5 x5 y5 => ?_⟩
  rw [← List.map_append] at y5
  have y5 : H5 p5 = some (.lst ((flagV c exnAll).map V.bl)) := y5
  -- the kinds
  refine ⟨trivial, fun p6 H6 x6 y6 => ⟨trivial, p6, _, rfl, y6, (by simp), (by simp), fun p7 H7 x7 y7 => ⟨trivial, p7, _, rfl, y7, (by simp), (by simp), fun p8 H8 x8 y8 => ?_⟩⟩⟩
  have y8 : H8 p8 = some (.lst (exnAll.map fun k => V.str k.cname)) := y8
  have yf := x8 _ _ (x7 _ _ (x6 _ _ y5))
  have ex : Ex H H8 := ((((((x1.tr x2).tr x3).tr x4).tr x5).tr x6).tr x7).tr x8
  -- the test is false
  refine ⟨p5, _, rfl, yf, ?_⟩
  rw [flags_sum]
  refine ⟨rfl, _, rfl, ?_⟩
  show if (!decide (V.int 1 = V.int 1)) = true then _ else _
  rw [if_neg (by simp)]
  refine ⟨_, rfl, .ty "ValueError", .type "ValueError", true, rfl, fun u hu => hu, t.kit.ve, true, rfl, ?_⟩
  show if (!true) = true then _ else _
  rw [if_neg (by simp)]
  -- return
  refine ⟨_, rfl, .ref p5, rfl, .inl ⟨rfl, _, SqL.of yf⟩, ?_⟩
  refine ⟨fun _ => False, .list ((flagV c exnAll).map PyData.bool), .bool true, _, _, rfl, .lst (fun z => z) yf (rps_bls _), .bl true, flags_at c, fun v H9 x9 rv => ?_⟩
  refine ⟨p8, _, _, _, rfl, rv.inv_int, SqL.of (x9 _ _ y8), kinds_at c, ?_⟩
  refine ⟨by rw [sizeLine_eq]; simp, fun p hp => ?_⟩
  have ex9 := ex.tr x9
  refine k p _ (ex9.tr (Ex.new hp)) ?_ upd_same
  cases e : H p with
  | none => rfl
  | some o => rw [ex9 _ _ e] at hp; cases hp
where
  pa_true {Y : Cx} {es : List Expr} {xs : List V} (h : PA Y es (fun σ H Q => Q xs H)) : PA Y es (fun σ H Q => True ∧ Q xs H) := ⟨fun pos pins s σ H Q I z => h.run pos pins s σ H Q I z.2⟩
  rps_bls {K : PySem.W.Frag} {W : AP} {H : Hp} : ∀ bs : List Bool, Rps K W H (bs.map V.bl) (bs.map PyData.bool)
    | [] => .nil
    | b :: bs => .cons (.bl b) (rps_bls bs)
end
end Dm
namespace Dm
open PySem PySem.Spec PyProof.Rows L2 LamX HotX L2H
/-! ### a lambda is made; nothing that is known is lost -/
theorem lam_make3 {X : Cx} {pins : List (Addr × Obj)} {σ : L2.St} {H : Hp} {s : Shared} {T : List (Addr × Str)} {c P : Addr} {params : Arguments} {body : Expr} {scope : Scope} {pos : Pos} {E : Value → Shared → Prop} {Q : Value → Shared → Prop} (I : Inv X pins σ H s) (TB : TabB X.base X.mg c P) (hcode : X.env.code = .ref c)
    (hm : (P, X.env.qual ++ "<lambda>") ∈ T) (hu : ∀ p ∈ T, p.1 = P → p.2 = X.env.qual ++ "<lambda>") (hT : Tabs T H) (hdef : defaultsOf params X.env = ([], [])) (hfree : ∀ y ∈ scope.names, y.2 = .free → ∃ c, X.env.cells.lookup y.1 = some c)
    (h : ∀ (f c' : Addr) (pm ctv : Value) (H1 : Hp) (s' : Shared), Inv X pins σ H1 s' → ExtN H H1 → (∀ a, H a ≠ none → H1 a ≠ none) → Tabs T H1 →
      s'.heap.get? f = some (PySem.W.kla_obj "<lambda>" (X.env.qual ++ "<lambda>") params body scope (cloFrom X.env.cells scope.names []) pm c' ctv) → H1 f = none → f ∉ frs X.stack → H1 c' = some (CodeO c' (X.env.qual ++ "<lambda>")) → Q (.ref f) s') :
    wpAny (model X.prog X.w) X.A (eval (.Lambda params body scope pos) X.env) Q E s := by
  obtain ⟨ps, hP, ht, ha⟩ := hT _ hm
  refine PySem.W.kla_eval hdef ?_
  have bP : s.heap.BuiltinsAt X.mg P := TB.bm.keeps I.bk
  have hP' : s.heap.get? P = some { cls := .none, data := .fields ps } := I.hok P _ hP
  have nofr : ∀ f, s.heap.objs.size ≤ f → f ∉ frs X.stack := fun f hf z => by
    rcases List.mem_cons.mp (I.stkSub _ z) with e | e
    · exact Nat.lt_irrefl _ (Nat.lt_of_lt_of_le (by rw [e]; exact I.lt) hf)
    · exact I.nofs hf e
  cases hc : codeAmong pos ps.toList with
  | some cv =>
    obtain ⟨c', rfl, hco⟩ := ha pos cv hc
    refine PySem.W.kla_makeFunctionHit (mg := X.mg) (c := c) (P := P) (ps := ps) (closure_ok hfree) I.ok.glob (I.mod.glob.keeps I.bk) hcode (TB.code.keeps I.bk) hP' ht hc bP fun ctv h' tk hx hsz => ?_
    exact h h'.objs.size c' ((X.mg "__name__").getD .none) ctv H _ (I.kept (t' := tk) fun b o e => Heap.get?_push_of_some _ (hx b o e)) (ExtN.refl H) (fun _ z => z) hT (Heap.get?_push_size _ rfl) (I.hok.fresh hsz) (nofr _ hsz) hco
  | none =>
    refine PySem.W.kla_makeFunction (mg := X.mg) (c := c) (P := P) (ps := ps) (closure_ok hfree) I.ok.glob (I.mod.glob.keeps I.bk) hcode (TB.code.keeps I.bk) hP' ht hc TB.gP bP fun c' ctv h' tk hx hge hlt hrec htb => ?_
    obtain ⟨c2, oc, vs, t, e2, hoc, hd, hv⟩ := hrec
    cases e2
    have nC : H c' = none := I.hok.fresh hge
    have nPc : P ≠ c' := ne_of_none hP nC
    have hsz : s.heap.objs.size ≤ h'.objs.size := Nat.le_trans hge (Nat.le_of_lt hlt)
    have I1 := inv_table (t' := tk) (q := X.env.qual ++ "<lambda>") (more := #[rawInt pos.line, rawInt pos.col, .ref c']) (h' := h'.push (PySem.W.kla_obj "<lambda>" (X.env.qual ++ "<lambda>") params body scope (cloFrom X.env.cells scope.names []) ((X.mg "__name__").getD .none) c' ctv)) I hP
      (fun b o hb e => Heap.get?_push_of_some _ (hx b o hb e)) (Heap.get?_push_of_some _ htb) hge ⟨oc, vs, t, Heap.get?_push_of_some _ hoc, hd, hv⟩
    generalize hH1 : upd (upd H P (.tbl (ps ++ #[rawInt pos.line, rawInt pos.col, .ref c']))) c' (CodeO c' (X.env.qual ++ "<lambda>")) = H1 at I1
    have at_c : H1 c' = some (CodeO c' (X.env.qual ++ "<lambda>")) := by rw [← hH1, upd_same]
    have at_P : H1 P = some (.tbl (ps ++ #[rawInt pos.line, rawInt pos.col, .ref c'])) := by rw [← hH1, upd_ne nPc, upd_same]
    have at_o : ∀ b, b ≠ P → b ≠ c' → H1 b = H b := fun b h1 h2 => by rw [← hH1, upd_ne h2, upd_ne h1]
    have nc : ∀ b, H b ≠ none → b ≠ c' := fun b n z => n (by rw [z]; exact nC)
    have hE : ExtN H H1 := fun b o e n => by
      rw [at_o b (fun z => n ps (Option.some.inj (e.symm.trans (by rw [z]; exact hP)))) (ne_of_none e nC)]
      exact e
    have hD : ∀ b, H b ≠ none → H1 b ≠ none := fun b n => by
      by_cases hb : b = P
      · rw [hb, at_P]; exact fun z => nomatch z
      · rw [at_o b hb (nc b n)]; exact n
    refine h h'.objs.size c' ((X.mg "__name__").getD .none) ctv _ _ I1 hE hD (fun p hp => ?_) (Heap.get?_push_size _ rfl) ?_ (nofr _ hsz) at_c
    · by_cases hb : p.1 = P
      · rw [hu p hp hb, hb]
        have eL : (ps ++ #[rawInt pos.line, rawInt pos.col, .ref c']).toList = ps.toList ++ [rawInt pos.line, rawInt pos.col, .ref c'] := by simp
        refine ⟨_, at_P, by rw [eL]; exact PySem.TriplesOk_snoc _ _ _ _ ht, fun p' cv hcv => ?_⟩
        rw [eL] at hcv
        rcases among_app _ ht hcv with z | z
        · obtain ⟨c0, e1, e2⟩ := ha p' cv z
          exact ⟨c0, e1, hE _ _ e2 codeO_ne⟩
        · exact ⟨c', z, at_c⟩
      · obtain ⟨ps', a1, a2, a3⟩ := hT p hp
        refine ⟨ps', by rw [at_o _ hb (ne_of_none a1 nC)]; exact a1, a2, fun p' cv hcv => ?_⟩
        obtain ⟨c0, e1, e2⟩ := a3 p' cv hcv
        exact ⟨c0, e1, hE _ _ e2 codeO_ne⟩
    · rw [at_o _ (Nat.ne_of_gt (Nat.lt_of_lt_of_le (Heap.lt_size hP') hsz)) (Nat.ne_of_gt hlt)]
      exact I.hok.fresh hsz
/-! ### its body's context; exceptions with empty context -/
abbrev lamN (X : Cx) (A : Around) (outer : List Env) (s : Shared) (H : Hp) (E : XK) (scope : Scope) (f c' : Addr) : Cx :=
  { lamCx X A outer s H E scope f c' with xe := fun e s' => wpAny (model X.prog X.w) (A.deeper (lamEnv X scope s.heap.objs.size f c')) (leaving (lamEnv X scope s.heap.objs.size f c') e) (fun _ s'' => L2N.CX X.prog X.w outer H s E e s'') (fun e' s'' => L2N.CX X.prog X.w outer H s E e' s'') s' }
section
variable {X : Cx} {pins : List (Addr × Obj)} {σ : L2.St} {H HZ : Hp} {s s1 : Shared}
theorem lam_startN {A : Around} {outer : List Env} {E : XK} {scope : Scope} {f c' : Addr} {h₁ : Heap} {tk : Nat} (I : Inv X pins σ H s) (L : LamS X.env.scope scope) (e0 : Env0 X.prog X.w X.K X.mg X.base A outer s1 HZ) (hd : A.handled = none)
    (un : Un (frs X.stack) [] H HZ s.heap s1.heap) (hns : h₁.Ns s1.heap.objs.size fun y => ([] : List (Str × Value)).reverse.lookup y) (kp : ∀ b o, s1.heap.get? b = some o → h₁.get? b = some o) :
    Inv (lamN X A outer s1 HZ E scope f c') [] σ HZ { s1 with heap := h₁, toks := tk } := (lam_start2 (E := E) (f := f) (c' := c') (tk := tk) I L e0 hd un hns kp).wish _
/-- x(), in the def that got the lambda -/
theorem pe_actN {Eg : XK} {Ng : List Str} {qg : Str} {sg : Scope} {g f c' : Addr} {cdg pm ctv : Value} {params : Arguments} {body : Expr} {scope : Scope} {k i : Nat} {a : Str} {pn : List (Addr × Obj)} {xe : Value → Shared → Prop} {W : WX} {E : XK} {tb : TE} {p1 p2 : Pos}
    (I : Inv X pins σ H s) (L : LamS X.env.scope scope) (hf : s.heap.get? f = some (PySem.W.kla_obj "<lambda>" (X.env.qual ++ "<lambda>") params body scope (cloFrom X.env.cells scope.names []) pm c' ctv)) (hfn : H f = none) (hfr : f ∉ frs X.stack)
    (hbind : bindArgs (PySem.W.kla_fn "<lambda>" (X.env.qual ++ "<lambda>") params body scope (cloFrom X.env.cells scope.names []) pm (.ref c') ctv) ⟨[], []⟩ = pure [])
    (tk : L2N.Takes ((cxOf (L2N.CX X.prog X.w) X.prog X.w X.K X.mg X.base Ng qg sg g cdg X.A X.stack s H Eg).tr pn xe) W) (hr : Room (k + 1) (X.A.deeper (envOfC qg sg s.heap.objs.size g cdg)))
    (hbody : ∀ (A : Around) (outer : List Env) (s : Shared) (H : Hp), Room k (A.deeper (lamEnv X scope s.heap.objs.size f c')) → PE (lamN X A outer s H E scope f c') body tb)
    (hN : Ng[i]? = some a) (hv : Vis sg a) (hd : (a == ("__debug__" : Str)) = false := by decide) (hcd : (a == ("__classdict__" : Str)) = false := by decide) :
    PE ((cxOf (L2N.CX X.prog X.w) X.prog X.w X.K X.mg X.base Ng qg sg g cdg X.A X.stack s H Eg).tr pn xe) (.Call (.Name a p1) [] [] p2)
      (fun σZ HZ Q => (∀ cls d H', E cls d H' → W cls d σZ H') ∧ σZ[i]? = some (some (.ref f)) ∧ HZ c' = some (CodeO c' (X.env.qual ++ "<lambda>")) ∧ tb σ HZ Q) := by
  refine ⟨fun pinsZ sZ σZ HZ Q IZ h => ?_⟩
  obtain ⟨hW, hs, hc, ht⟩ := h
  refine wpAny_Call_Name_kw (thn ((pe_var (pos := p1) (i := i) hN hv hd hcd).run pinsZ sZ σZ HZ (fun v H1 => v = .ref f ∧ H1 = HZ) IZ ⟨.ref f, hs, rfl, rfl⟩) fun u s1 ⟨v, H1, I1, r1, ev, eH⟩ => ?_)
  subst ev
  rw [eH] at I1
  obtain rfl : u = Value.ref f := r1
  have of1 : s1.heap.get? f = some (PySem.W.kla_obj "<lambda>" (X.env.qual ++ "<lambda>") params body scope (cloFrom X.env.cells scope.names []) pm c' ctv) := I1.base.keep f _ hf hfn hfr (fun z => nomatch (show f ∈ ([] : List Addr) from z))
  refine PySem.W.callWith_F0 ⟨_, _, _, _, of1⟩ ?_
  have un : Un (frs X.stack) [] H HZ s.heap s1.heap := I1.base
  obtain ⟨⟨oc, vs, t, hoc, hdc, hvc⟩, _, _⟩ := I1.hok c' _ hc
  have rc : codeAny (model X.prog X.w) (X.A.deeper (envOfC qg sg s.heap.objs.size g cdg)) (.call (.ref f) ⟨[], []⟩) (CR (L2N.CX X.prog X.w) (envOfC qg sg s.heap.objs.size g cdg :: X.stack) X.prog X.w HZ s1 Q E) s1 := by
    refine PySem.W.kla_callFunE hr.depth of1 rfl L.co L.gen rfl ⟨c', oc, vs, t, rfl, hoc, hdc, hvc⟩ ?_
    rw [hbind]
    refine wpAny_pure (wpAny_newFunctionEnv (fun y hy => (L.own y hy).2) (fun y hy => absurd hy (by simp)) (fun h₁ hns hsb => ⟨I1.nolimit.fresh _ hsb, ?_⟩) L.kind)
    show codeAny _ _ (.expr body (lamEnv X scope s1.heap.objs.size f c')) _ _
    have kp : ∀ b o, s1.heap.get? b = some o → h₁.get? b = some o := fun b o e => hsb.extBut b o (Nat.ne_of_lt (Heap.lt_size e)) (Heap.get?_push_of_some _ e)
    have J : Inv (lamN X (X.A.deeper (envOfC qg sg s.heap.objs.size g cdg)) (envOfC qg sg s.heap.objs.size g cdg :: X.stack) s1 HZ E scope f c') [] σ HZ { s1 with heap := h₁, toks := s1.toks + ([] : List (Str × Value)).length } :=
      lam_startN I L I1.env0 hr.hd un hns kp
    refine PySem.W.kla_codeExpr (wpAny_mono ((hbody _ _ s1 HZ (hr.deeper _)).run [] _ _ HZ Q J ht) (fun v s' hq => ?_) fun e s' hq => hq)
    obtain ⟨w', H', J', rv, q⟩ := hq
    exact ⟨w', H', J'.os, J'.bare, J'.base, J'.hok, rv, q⟩
  refine wpAny_call (codeAny_mono rc fun r s' hq => ?_)
  cases r with
  | error e => exact tk e s' (L2N.XE.of_call I1 hW hq)
  | ok fl =>
    cases fl with
    | ret u => exact I1.after hq
    | next => exact False.elim hq
    | brk => exact False.elim hq
    | cont => exact False.elim hq
end
end Dm
namespace Dm
open PySem PySem.Spec PyProof.Rows L2 LamX HotX L2H
/-- what is known of _law_term -/
structure TermD (K : PySem.W.Frag) (mg : Str → Option Value) (exa : Exn → Addr) : Prop where
  ex : ∃ (params : Arguments) (body : List Stmt) (sc : Scope) (kws : List (Str × V)) (g : Addr) (fd : FuncData), FunD K "_law_term" "_law_term" params body sc [] kws g fd ∧ FnScope ["_law_e", "_law_flags", "_law_kinds"] ["_law_e"] sc ∧ termB sc body = true ∧ mg "_law_term" = some (.ref g) ∧ L2.Binds K fd ["_law_e"] []
  kit : ∀ c, KitOk K mg exa c
  mgc : ∀ c : Exn, mg c.cname = some (.ref (exa c))
  se : ∃ S : Addr, mg "SearchError" = some (.ref S) ∧ ∀ c, PySem.W.exmOne K (.ref (exa c)) (.ref S) = some true
  isi : mg "isinstance" = none
  sum : mg "sum" = none
  int : mg "int" = none
  ve : mg "ValueError" = none
section
variable {X : Cx} {a : Addr} {oe : Obj} {exa : Exn → Addr} {c : Exn}
/-- _law_term(e), in the suite -/
theorem pe_term {pn : List (Addr × Obj)} {k : Nat} {i : Nat} {p p2 pos : Pos} (T : TermD X.K X.mg exa) (hr : Room (k + 1) X.A) (hz : L2N.Zn (.ref (exa c)) none oe) (hf : ∃ vs, oe.data = .fields vs) (hin : (a, oe) ∈ pn) (hg : Gl X "_law_term") (hN : X.N[i]? = some ("_law_e" : Str)) (hv : Vis X.env.scope "_law_e") :
    PE (X.suite a pn) (.Call (.Name "_law_term" p) [.Name "_law_e" p2] [] pos) (fun σ H Q => σ[i]? = some (some (.ref a)) ∧ ∀ p H', Ex H H' → H p = none → H' p = some (.tup [.str "error", .str c.cname]) → Q (.ref p) H') := by
  obtain ⟨params, body, sc, kws, g, fd, F, S, tb, hm, hb⟩ := T.ex
  have hk := F.kp
  obtain ⟨oc, od, dV, kV, doc, pm, an, cdv, ct, osl, rfl, lk, hcd, _, _⟩ := F.ex
  refine ⟨fun pins s σ H Q I h => ?_⟩
  obtain ⟨h1, h2⟩ := h
  refine wpAny_Call_Name_kw (ld_glob (X := X.suite a pn) I hg hm ?_ (by decide))
  refine PySem.W.callWith_K (h₀ := X.base) I.ok.mod.kin hk (thn ((pa_cons (X := X.suite a pn) (pe_var (i := i) hN hv) pa_nil).run pos pins s σ H (fun vs H1 => vs = [.ref a] ∧ H1 = H) I ⟨_, h1, rfl, rfl⟩) fun us s1 ⟨vs, H1, I1, r, e1, e2⟩ => ⟨I1.kIn, ?_⟩) (by rfl) (by rfl)
  subst e1 e2
  obtain ⟨u, rfl, r1⟩ := vals1 r
  obtain rfl : u = .ref a := r1
  obtain ⟨vs, hvs⟩ := hf
  have hot : Hot1 (X.suite a pn).A (a, oe) := ⟨rfl, vs, hvs, hz.2.2 vs hvs⟩
  have P1 := I1.pin (a, oe) (List.mem_append_left _ hin)
  have hpin : PinOk (X.suite a pn).stack H1 s1 (a, oe) := ⟨P1.1, P1.2.1, fun hm => (List.mem_cons.mp (I1.stkSub a hm)).elim P1.2.2.1 P1.2.2.2.1, P1.2.2.2.2⟩
  have hrm : RoomH (k + 1) (X.suite a pn).A := ⟨hr.dp, hr.un⟩
  refine wpAny_call (codeAny_mono (run_hot (CX := L2N.CX X.prog X.w) (N := ["_law_e", "_law_flags", "_law_kinds"]) (ps := ["_law_e"]) (us := [.ref a]) (vs := [.ref a]) (Q := Q) (E := fun _ _ _ => False) lk hcd S hrm hpin I1.env0 (hb s1 [.ref a] I1.kIn rfl) (.cons rfl .nil) rfl fun hrb => ?_) fun r s2 hq => ?_)
  · obtain ⟨t, ht, hT⟩ := term_run (Y := cxH (L2N.CX X.prog X.w) X.prog X.w X.K X.mg X.base ["_law_e", "_law_flags", "_law_kinds"] "_law_term" sc g cdv (X.suite a pn).A (X.suite a pn).stack s1 H1 (fun _ _ _ => False) (a, oe)) (a := a) (oe := oe) (exa := exa) (c := c)
      ⟨rfl, List.mem_singleton.mpr rfl, ⟨(a, oe), ⟨rfl, vs, hvs, hz.2.2 vs hvs⟩, List.mem_singleton.mpr rfl⟩, T.kit c, T.mgc, hz, ⟨vs, hvs⟩, T.isi, Nat.lt_of_le_of_lt (show ((X.suite a pn).A.deeper (envOfC (Str.ofString "_law_term") sc s1.heap.objs.size g cdv)).units + 65 ≤ _ from Nat.le_trans (Nat.add_le_add_left (by omega : 65 ≤ 16 * k + 200) _) (by omega)) hrb.un⟩ rfl tb (fun _ => rfl) T.sum T.int T.ve
    exact ⟨t, ht, hT _ _ fun p H' ex hn hp => h2 p H' ex hn hp⟩
  · cases r with
    | error e =>
      obtain ⟨_, _, _, _, _, _, _, _, _, _, _, _, z⟩ := hq
      exact z.elim
    | ok fl =>
      cases fl with
      | ret u => exact I1.after hq
      | next => exact False.elim hq
      | brk => exact False.elim hq
      | cont => exact False.elim hq
end
/-! ### _law_told -/
def tellB (sc : Scope) : List Stmt → Bool
  | [.Try [.Return (some (.Call (.Name a _) [] [] _)) _] [.ExceptHandler (some (.Name x _)) (some n) [.Return (some (.Call (.Name t _) [.Name m _] [] _)) _] _] [] [] _] =>
    decide (a = "_law_deed") && (decide (x = "SearchError") && (decide (n = "_law_e") && (decide (t = "_law_term") && (decide (m = "_law_e") && (glB sc "SearchError" && (glB sc "_law_term" && isLocal sc "_law_e"))))))
  | _ => false
structure ToldD (K : PySem.W.Frag) (mg : Str → Option Value) (exa : Exn → Addr) : Prop where
  ex : ∃ (params : Arguments) (body : List Stmt) (sc : Scope) (kws : List (Str × V)) (g : Addr) (fd : FuncData), FunD K "_law_told" "_law_told" params body sc [] kws g fd ∧ FnScope ["_law_deed", "_law_e"] ["_law_deed"] sc ∧ tellB sc body = true ∧ mg "_law_told" = some (.ref g) ∧ L2.Binds K fd ["_law_deed"] []
  tm : TermD K mg exa
/-- a lambda's reading -/
def tDen (P : Program) (w : World) (K : PySem.W.Frag) (C : Cxt) (m : Rho → Res D) (E : XK) : TE := fun σ H Q => ∃ pa U ρ, R P w K C pa U σ H ρ ∧ match m ρ with
  | .ok d ρ' => ∀ H', Sq P w K C pa U σ H ρ σ H' ρ' → ∀ v, Rp K (Wd U σ ρ') H' v d → Q v H'
  | .exc c ρ' => ∀ H', Sq P w K C pa U σ H ρ σ H' ρ' → E (.ref (C.exa c)) none H'
  | .bad => False
theorem pe_den {X : Cx} {C : Cxt} {e : Expr} {m : Rho → Res D} {E : XK} (h : EOk C X (fun c _ H => E (.ref (C.exa c)) none H) e m) : PE X e (tDen X.prog X.w X.K C m E) := by
  refine ⟨fun pins s σ H Q I q => ?_⟩
  obtain ⟨pa, U, ρ, r, q⟩ := q
  refine h pa U σ H ρ Q r ?_ pins s I
  cases hm : m ρ with
  | ok d ρ' => rw [hm] at q; exact q
  | exc c ρ' => rw [hm] at q; exact q
  | bad => rw [hm] at q; exact q
end Dm
namespace Dm
open PySem PySem.Spec PyProof.Rows L2 LamX HotX L2H
abbrev noArgs : Arguments := ⟨[], [], none, [], [], none, []⟩
theorem Kp.extN {W : AP} {H H' : Hp} (e : ExtN H H') : Kp W H W H' := fun a u h n t => ⟨e a u h t, n⟩
section
variable {P : Program} {w : World} {K : PySem.W.Frag} {C : Cxt} {pa : Nat → Addr} {U : AP} {σ : St} {H H1 : Hp} {ρ : Rho}
theorem R.extN (r : R P w K C pa U σ H ρ) (e : ExtN H H1) (d : ∀ a, H a ≠ none → H1 a ≠ none) (t : Tabs C.T H1) : R P w K C pa U σ H1 ρ :=
  ⟨r.len, fun a h => d a (r.dom a h), t, r.out, r.apart, fun i s h => (r.slot i s h).kp (Kp.extN e) fun p o ho hp q => e p o q fun ps z => by
    subst z
    have sl := r.slot i s h
    cases s with
    | un => cases ho
    | val d => cases ho
    | scr ns => cases ho
    | own fx ds => obtain ⟨p', vs', e', _, q', _⟩ := sl; rw [hp] at e'; cases e'; rw [q] at q'; cases q'
    | dic fx kvs => obtain ⟨p', e', _, xs, q', _⟩ := sl; rw [hp] at e'; cases e'; rw [q] at q'; cases q'
    | ins fx fs => obtain ⟨p', dx, vs', e', _, q', _⟩ := sl; rw [hp] at e'; cases e'; rw [q] at q'; cases q'⟩
theorem Sq.extN (r : R P w K C pa U σ H ρ) (e : ExtN H H1) (d : ∀ a, H a ≠ none → H1 a ≠ none) (t : Tabs C.T H1) : Sq P w K C pa U σ H ρ σ H1 ρ :=
  ⟨r.extN e d t, ⟨fun a o h _ n => e a o h n, d⟩, fun _ h => .inl h⟩
end
/-- a context where lambdas are made -/
structure TdOk (C : Cxt) (k : Nat) (X : Cx) : Prop where
  room : Room (k + 3) X.A
  code : ∃ c P, X.env.code = .ref c ∧ TabB X.base X.mg c P ∧ (P, X.env.qual ++ "<lambda>") ∈ C.T ∧ ∀ p ∈ C.T, p.1 = P → p.2 = X.env.qual ++ "<lambda>"
  td : ToldD X.K X.mg C.exa
theorem cname_ok (c : Exn) : StrOk c.cname := by cases c <;> exact ⟨by decide +kernel, by rw [sizeLine_eq]; decide +kernel⟩
theorem error_ok : StrOk "error" := ⟨by decide +kernel, by rw [sizeLine_eq]; decide +kernel⟩
theorem sname_ok : StrOk "SearchError" := ⟨by decide +kernel, by rw [sizeLine_eq]; decide +kernel⟩
section
variable {X : Cx} {C : Cxt} {W : XW} {k : Nat}
theorem xok_lam (x : XOk C k X W) {A : Around} {outer : List Env} {s : Shared} {H : Hp} {E : XK} {scope : Scope} {f c' : Addr} (hr : Room k (A.deeper (lamEnv X scope s.heap.objs.size f c'))) : XOk C k (lamN X A outer s H E scope f c') (fun c _ H => E (.ref (C.exa c)) none H) :=
  ⟨rfl, x.nd, hr, x.bt, x.ty, x.isi, x.rng, x.enm, x.rev, x.st, (L2N.takes_of (X := lamN X A outer s H E scope f c') (E := E) rfl rfl rfl rfl).imp fun cls d σ H' ⟨e, c, e2, z⟩ => by subst e e2; exact z⟩
theorem eok_told {body : Expr} {m : Rho → Res D} {scope : Scope} {p lpos pos : Pos} (x : XOk C k X W) (td : TdOk C k X) (hg : Gl X "_law_told") (L : LamS X.env.scope scope)
    (hb : ∀ (A : Around) (outer : List Env) (s : Shared) (H : Hp) (E : XK) (f c' : Addr), XOk C k (lamN X A outer s H E scope f c') (fun c _ H => E (.ref (C.exa c)) none H) → EOk C (lamN X A outer s H E scope f c') (fun c _ H => E (.ref (C.exa c)) none H) body m) :
    EOk C X W (.Call (.Name "_law_told" p) [.Lambda noArgs body scope lpos] [] pos) (toldR m) := by
  intro pa U σ H ρ Q r h
  intro pins s I
  obtain ⟨params, bg, sg, kws, g, fd, F, Sg, tb, hm, hbd⟩ := td.td.ex
  have hk := F.kp
  obtain ⟨oc, od, dV, kV, doc, pm, an, cdv, ct, osl, rfl, lk, hcg, _, _⟩ := F.ex
  obtain ⟨cc, PP, hcode, TB, hmT, hu⟩ := td.code
  refine wpAny_Call_Name_kw (ld_glob I hg hm ?_ (by decide))
  refine PySem.W.callWith_K (h₀ := X.base) I.ok.mod.kin hk ?_ (by rfl) (by rfl)
  show wpAny _ _ (spliced ((false, eval (.Lambda noArgs body scope lpos) X.env) :: backTo pos (starEach [] X.env))) _ _ s
  refine Calls.spliced_cons (lam_make3 I TB hcode hmT hu r.tabs rfl (L.has I.ok) fun f c' pm' ctv H1 s' I1 eN dN T1 hf hfn hfr hco => ?_)
  refine Calls.spliced_nil ⟨I1.kIn, ?_⟩
  have sq1 := Sq.extN r eN dN T1
  have r1 := sq1.r
  have rc : codeAny (model X.prog X.w) X.A (.call (.ref g) ⟨[.ref f], []⟩) (CR (L2N.CX X.prog X.w) X.stack X.prog X.w H1 s' Q fun _ _ _ => False) s' := by
    refine run_ofS (N := ["_law_deed", "_law_e"]) (ps := ["_law_deed"]) (us := [.ref f]) (vs := [.ref f]) lk hcg Sg (td.room.mono (by omega : k + 2 + 1 ≤ k + 3)) I1.env0 (hbd s' [.ref f] I1.kIn rfl) (.cons rfl .nil) rfl fun hr' => ?_
    unfold tellB at tb
    split at tb
    rotate_left
    · cases tb
    rename_i an p1 p2 p3 xn p4 nn tn p5 mn p6 p7 p8 p9 p10
    obtain ⟨b1, tb⟩ := ba tb
    obtain ⟨b2, tb⟩ := ba tb
    obtain ⟨b3, tb⟩ := ba tb
    obtain ⟨b4, tb⟩ := ba tb
    obtain ⟨b5, tb⟩ := ba tb
    obtain ⟨b6, tb⟩ := ba tb
    obtain ⟨b7, b8⟩ := ba tb
    cases of_decide_eq_true b1
    cases of_decide_eq_true b2
    cases of_decide_eq_true b3
    cases of_decide_eq_true b4
    cases of_decide_eq_true b5
    have hva : Vis sg "_law_deed" := vis_par' Sg (by simp)
    have hl := isLocal_of b8
    obtain ⟨S, hS, hex⟩ := td.td.tm.se
    refine ⟨_, pss_one (L2N.ps_try_as (X := cxOf (L2N.CX X.prog X.w) X.prog X.w X.K X.mg X.base ["_law_deed", "_law_e"] "_law_told" sg g cdv X.A X.stack s' H1 (fun _ _ _ => False)) (c := .ref S) (i := 1) (Wout := fun _ _ _ _ => False)
      (tb := fun W D σ' H' => ∃ Ech : XK, (∀ cls d H'', Ech cls d H'' → W cls d σ' H'') ∧ σ'[0]? = some (some (.ref f)) ∧ H' c' = some (CodeO c' (X.env.qual ++ "<lambda>")) ∧ tDen X.prog X.w X.K C m Ech σ H' D.rt)
      (ts := fun a cls d D σ' H' => ∃ c, cls = .ref (C.exa c) ∧ d = none ∧ σ'[1]? = some (some (.ref a)) ∧ ∀ p H'', Ex H' H'' → H' p = none → H'' p = some (.tup [.str "error", .str c.cname]) → D.rt (.ref p) H'')
      rfl rfl Sg.nd rfl hl ⟨glB_of rfl b6, by decide, .inl hS⟩ (fun u s2 ⟨_, _, _, _, _, _, _, _, _, _, _, _, _, _, _, _, z⟩ => z.elim) (fun W' pn xe tk _ => ?_) (fun a oe cls d pn hz hf => ?_)), ?_⟩
    · refine ⟨fun pins2 s2 σ2 H2 D I2 q => ?_⟩
      obtain ⟨Ech, h1, h2, h3, h4⟩ := q
      exact (pss_one (ps_ret (pos := p3) (pe_actN (k := k) (i := 0) (E := Ech) I1 L hf hfn hfr rfl tk (hr'.mono (by omega)) (fun A outer s H hr2 => pe_den (hb A outer s H Ech f c' (xok_lam x hr2))) rfl hva))).run pins2 s2 σ2 H2 D I2 ⟨h1, h2, h3, h4⟩
    · refine ⟨fun pins2 s2 σ2 H2 D I2 q => ?_⟩
      obtain ⟨c, rfl, rfl, h1, h2⟩ := q
      exact (pss_one (ps_ret (pe_term (X := cxOf (L2N.CX X.prog X.w) X.prog X.w X.K X.mg X.base ["_law_deed", "_law_e"] "_law_told" sg g cdv X.A X.stack s' H1 (fun _ _ _ => False)) (i := 1) (k := k) td.td.tm (hr'.mono (by omega)) hz hf List.mem_cons_self (glB_of rfl b7) rfl (.inl hl)))).run pins2 s2 σ2 H2 D I2 ⟨h1, h2⟩
    · refine ⟨fun cls d H' => d = none ∧ ∃ c, cls = .ref (C.exa c) ∧ ∀ p H'', Ex H' H'' → H' p = none → H'' p = some (.tup [.str "error", .str c.cname]) → Q (.ref p) H'', ?_, rfl, hco, pa, U, ρ, r1, ?_⟩
      · rintro cls d H'' ⟨rfl, c, rfl, hq⟩
        exact ⟨true, hex c, fun _ a ha => ⟨c, rfl, rfl, rfl, hq⟩, fun z => nomatch z⟩
      · unfold toldR at h
        cases hm : m ρ with
        | ok d ρ' =>
          rw [hm] at h
          exact fun H' sq v rv => h H' (sq1.trans sq) v rv
        | exc c ρ' =>
          rw [hm] at h
          refine fun H' sq => ⟨rfl, c, rfl, fun p H'' ex hn hp => h H'' (sq1.trans (sq.trans (Sq.ex sq.r ex))) (.ref p) ?_⟩
          exact .tup (.inl ⟨sq.r.fresh hn, .inl hp⟩) (.cons (.str _ error_ok) (.cons (.str _ (cname_ok c)) .nil))
        | bad => rw [hm] at h; exact h.elim
  refine wpAny_call (codeAny_mono rc fun r s2 hq => ?_)
  cases r with
  | error e =>
    obtain ⟨_, _, _, _, _, _, _, _, _, _, _, _, z⟩ := hq
    exact z.elim
  | ok fl =>
    cases fl with
    | ret u => exact I1.after hq
    | next => exact False.elim hq
    | brk => exact False.elim hq
    | cont => exact False.elim hq
where
  vis_par' {N P : List Str} {sc : Scope} (S : FnScope N P sc) {x : Str} (h : x ∈ P) : Vis sc x := by
    rcases S.par x h with e | e
    · exact Or.inl e
    · exact Or.inr (Or.inl e)
end
end Dm
namespace Dm
open PySem PySem.Spec PyProof.Rows L2 LamX
/-- what the text offers -/
structure Tx (X : Cx) (C : Cxt) (k : Nat) (Δ : Nat → Fn) (G : List (Str × D)) (fns : List (Nat × Str)) (exs : List Exn) : Prop where
  fn : ∀ (f : Nat) q, fns.lookup f = some q → (Δ f).name = q ∧ Av X C k (Δ f)
  gl : ∀ (g : Nat) q, G[g]? = some q → GlbOk X q.1 q.2
  ex : ∀ c, c ∈ exs → ExAv X.prog X.K X.mg C c
/-- the names and the scope of a context -/
structure Sc (C : Cxt) (k : Nat) (lm : Bool) (X : Cx) (N : List Str) (sc : Scope) : Prop where
  N : X.N = N
  sc : X.env.scope = sc
  td : lm = true → TdOk C k X
section
variable {C : Cxt} {k : Nat} {Δ : Nat → Fn} {G : List (Str × D)} {fns : List (Nat × Str)} {N : List Str} {exs : List Exn}
theorem IEs.len_den : ∀ as : IEs, LenIs (dens Δ G as) as.len
  | .nil => fun ρ xs ρ' h => by
    simp only [dens, Res.ok.injEq] at h
    rw [← h.1]; rfl
  | .cons a r => fun ρ xs ρ' h => by
    simp only [dens, consR] at h
    obtain ⟨d, ρ1, h1, h2⟩ := bind_ok_inv h
    obtain ⟨ds, ρ2, h3, h4⟩ := bind_ok_inv h2
    simp only [Res.ok.injEq] at h4
    rw [← h4.1]
    show ds.length + 1 = r.len + 1
    rw [IEs.len_den r ρ1 ds ρ2 h3]
abbrev Vt (C : Cxt) (X : Cx) (W : XW) (e : Expr) (m : Rho → Res D) (b : BB) : Prop := (b.1 = true → EOk C X W e m) ∧ (b.2 = true → TOk C X W e m)
theorem vt_bb {X : Cx} {W : XW} {e : Expr} {m : Rho → Res D} {b : Bool} (hp : plainT e = true) (h : b = true → EOk C X W e m) : Vt C X W e m (bb b) := ⟨h, fun z => tok_plain (h z) hp⟩
theorem vt_no {X : Cx} {W : XW} {e : Expr} {m : Rho → Res D} : Vt C X W e m (false, false) := ⟨(fun z => nomatch z), (fun z => nomatch z)⟩
theorem denAnd_cons (a b : IE) (r : IEs) : denAnd Δ G (.cons a (.cons b r)) = andB (den Δ G a) (denAnd Δ G (.cons b r)) := rfl
theorem tx_blk_dummy : True := trivial
theorem tx_blk {X : Cx} (t : Tx X C k Δ G fns exs) (scope : Scope) (s : Shared) (H : Hp) (A : Addr) (cl : List (Str × Addr)) (fp : List Addr) : Tx (Blk X scope s H A cl fp) C k Δ G fns exs := ⟨t.fn, t.gl, t.ex⟩
theorem sc_blk {X : Cx} {lm : Bool} {sc : Scope} (h : Sc C k lm X N sc) (scope : Scope) (s : Shared) (H : Hp) (A : Addr) (cl : List (Str × Addr)) (fp : List Addr) : Sc C k false (Blk X scope s H A cl fp) N (relS scope sc) := by
  obtain ⟨rfl, rfl, _⟩ := h
  exact ⟨rfl, rfl, fun z => nomatch z⟩
mutual
theorem chk_ok : ∀ (ir : IE) {e : Expr} {lm : Bool} {sc : Scope} {X : Cx} {W : XW}, XOk C k X W → Tx X C k Δ G fns exs → Sc C k lm X N sc → Vt C X W e (den Δ G ir) (chk fns G N lm sc ir e)
  | .non, e, lm, sc, X, W, x, t, s => by
    unfold chk; split
    · exact ⟨fun _ => eok_non, fun _ => tok_plain eok_non rfl⟩
    · exact vt_no
  | .bl b, e, lm, sc, X, W, x, t, s => by
    unfold chk; split
    · refine vt_bb rfl fun h => ?_
      rw [beq_iff_eq] at h; subst h
      exact eok_bl
    · exact vt_no
  | .int i, e, lm, sc, X, W, x, t, s => by
    unfold chk; split
    · refine vt_bb rfl fun h => ?_
      cases of_decide_eq_true h
      exact eok_int
    · exact vt_no
  | .str z, e, lm, sc, X, W, x, t, s => by
    unfold chk; split
    · refine vt_bb rfl fun h => ?_
      obtain ⟨h1, u2⟩ := ba h
      obtain ⟨h2, h3⟩ := ba u2
      cases of_decide_eq_true h1
      exact eok_str ⟨h2, by have := of_decide_eq_true h3; rw [sizeLine_eq]; omega⟩
    · exact vt_no
  | .var i, e, lm, sc, X, W, x, t, s => by
    unfold chk; split
    · refine vt_bb rfl fun h => ?_
      have v := varB_of s.N s.sc h
      exact eok_var v.at_ v.vis v.nd v.nc
    · exact vt_no
  | .glb g, e, lm, sc, X, W, x, t, s => by
    unfold chk; split
    · rename_i y pos
      refine vt_bb rfl fun h => ?_
      obtain ⟨h1, u2⟩ := ba h
      obtain ⟨h2, h3⟩ := ba u2
      split at h1
      · rename_i q eq
        cases of_decide_eq_true h1
        have : den Δ G (.glb g) = fun ρ => .ok q.2 ρ := by
          funext ρ
          simp only [den, eq]
        rw [this]
        exact eok_glb (glB_of s.sc h2) (t.gl g q eq) (bn h3)
      · cases h1
    · exact vt_no
  | .bin o a b, e, lm, sc, X, W, x, t, s => by
    unfold chk; split
    · refine vt_bb rfl fun h => ?_
      obtain ⟨h1, u2⟩ := ba h
      obtain ⟨h2, h3⟩ := ba u2
      cases of_decide_eq_true h1
      exact eok_bin o ((chk_ok a x t s).1 h2) ((chk_ok b x t s).1 h3)
    · exact vt_no
  | .neg a, e, lm, sc, X, W, x, t, s => by
    unfold chk; split
    · exact vt_bb rfl fun h => eok_neg ((chk_ok a x t s).1 h)
    · exact vt_no
  | .cmp o a b, e, lm, sc, X, W, x, t, s => by
    unfold chk; split
    · refine ⟨fun h => ?_, fun h => ?_⟩ <;>
      · obtain ⟨h1, u2⟩ := ba h
        obtain ⟨h2, u3⟩ := ba u2
        obtain ⟨h3, h4⟩ := ba u3
        cases of_decide_eq_true h1
        first
          | exact eok_cmp x o ((chk_ok a x t s).1 h2) ((chk_ok b x t s).1 h3) (bn h4)
          | exact tok_cmp x o ((chk_ok a x t s).1 h2) ((chk_ok b x t s).1 h3) (bn h4)
    · exact vt_no
  | .cmp2 o o' a b c, e, lm, sc, X, W, x, t, s => by
    unfold chk; split
    · have nin : ∀ o : C2, o.isIn = false → o.op ≠ .In ∧ o.op ≠ .NotIn := fun o h => by cases o <;> first | (cases h; done) | exact ⟨(fun z => nomatch z), (fun z => nomatch z)⟩
      refine ⟨fun h => ?_, fun h => ?_⟩ <;>
      · obtain ⟨h1, u2⟩ := ba h
        obtain ⟨h2, u3⟩ := ba u2
        obtain ⟨h3, u4⟩ := ba u3
        obtain ⟨h4, u5⟩ := ba u4
        obtain ⟨h5, u6⟩ := ba u5
        obtain ⟨h6, h7⟩ := ba u6
        cases of_decide_eq_true h1
        cases of_decide_eq_true h2
        first
          | exact eok_cmp2 x o o' ((chk_ok a x t s).1 h5) ((chk_ok b x t s).1 h6) ((chk_ok c x t s).1 h7) (nin o (bn h3)) (nin o' (bn h4))
          | exact tok_cmp2 x o o' ((chk_ok a x t s).1 h5) ((chk_ok b x t s).1 h6) ((chk_ok c x t s).1 h7) (nin o (bn h3)) (nin o' (bn h4))
    · exact vt_no
  | .not a, e, lm, sc, X, W, x, t, s => by
    unfold chk; split
    · exact ⟨fun h => eok_not ((chk_ok a x t s).1 h), fun h => tok_not ((chk_ok a x t s).2 h)⟩
    · exact vt_no
  | .and as, e, lm, sc, X, W, x, t, s => by
    unfold chk; split
    · exact ⟨fun h => (chk_and as x t s).1 (ba h).2 (of_decide_eq_true (ba h).1), fun h => ((chk_and as x t s).2 (ba h).2 (of_decide_eq_true (ba h).1)).tok⟩
    · exact vt_no
  | .or as, e, lm, sc, X, W, x, t, s => by
    unfold chk; split
    · exact ⟨fun h => (chk_or as x t s).1 (ba h).2 (of_decide_eq_true (ba h).1), fun h => ((chk_or as x t s).2 (ba h).2 (of_decide_eq_true (ba h).1)).tok⟩
    · exact vt_no
  | .ite c a b, e, lm, sc, X, W, x, t, s => by
    unfold chk; split
    · refine ⟨fun h => ?_, fun z => nomatch z⟩
      obtain ⟨h1, u2⟩ := ba h
      obtain ⟨h2, h3⟩ := ba u2
      exact eok_ite ((chk_ok c x t s).2 h1) ((chk_ok a x t s).1 h2) ((chk_ok b x t s).1 h3)
    · exact vt_no
  | .tup as, e, lm, sc, X, W, x, t, s => by
    unfold chk; split
    · refine vt_bb rfl fun h => ?_
      obtain ⟨h1, h2⟩ := ba h
      exact eok_tup (chks_ok as x t s h1).1 (IEs.len_den as) (of_decide_eq_true h2)
    · exact vt_no
  | .lst as, e, lm, sc, X, W, x, t, s => by
    unfold chk; split
    · refine vt_bb rfl fun h => ?_
      obtain ⟨h1, h2⟩ := ba h
      exact eok_lst (chks_ok as x t s h1).1 (IEs.len_den as) (of_decide_eq_true h2)
    · exact vt_no
  | .ix a b, e, lm, sc, X, W, x, t, s => by
    unfold chk; split
    · refine vt_bb rfl fun h => ?_
      obtain ⟨h1, u2⟩ := ba h
      obtain ⟨h2, h3⟩ := ba u2
      exact eok_ix ((chk_ok a x t s).1 h1) ((chk_ok b x t s).1 h2) h3
    · exact vt_no
  | .ixv i b, e, lm, sc, X, W, x, t, s => by
    unfold chk; split
    · refine vt_bb rfl fun h => ?_
      obtain ⟨h1, u2⟩ := ba h
      obtain ⟨h2, h3⟩ := ba u2
      exact eok_ixs x (varB_of s.N s.sc h1) ((chk_ok b x t s).1 h2) h3
    · exact vt_no
  | .sl a lo hi, e, lm, sc, X, W, x, t, s => by
    unfold chk; split
    · refine vt_bb rfl fun h => ?_
      obtain ⟨h1, u2⟩ := ba h
      obtain ⟨h2, h3⟩ := ba u2
      exact eok_sl ((chk_ok a x t s).1 h1) (chkO_ok lo x t s h2) (chkO_ok hi x t s h3)
    · exact vt_no
  | .blt b as, e, lm, sc, X, W, x, t, s => by
    unfold chk; split
    · rename_i y p e' es pos
      refine vt_bb rfl fun h => ?_
      obtain ⟨h1, u2⟩ := ba h
      obtain ⟨h2, h3⟩ := ba u2
      cases of_decide_eq_true h1
      obtain ⟨g1, g2⟩ := chks_ok as x t s h3
      simp only [List.all_cons, Bool.and_eq_true] at g2
      exact eok_blt x b g1 (glB_of s.sc h2) g2.1 g2.2
    · exact vt_no
  | .isi ty a, e, lm, sc, X, W, x, t, s => by
    unfold chk; split
    · refine vt_bb rfl fun h => ?_
      obtain ⟨h1, u2⟩ := ba h
      obtain ⟨h2, u3⟩ := ba u2
      obtain ⟨h3, u4⟩ := ba u3
      obtain ⟨h4, u5⟩ := ba u4
      obtain ⟨h5, h6⟩ := ba u5
      cases of_decide_eq_true h1
      cases of_decide_eq_true h2
      exact eok_isi x ty ((chk_ok a x t s).1 h5) (glB_of s.sc h3) (glB_of s.sc h4) h6
    · exact vt_no
  | .rvt a, e, lm, sc, X, W, x, t, s => by
    unfold chk; split
    · refine vt_bb rfl fun h => ?_
      obtain ⟨h1, h2⟩ := ba h
      cases of_decide_eq_true h1
      exact eok_rvt ((chk_ok a x t s).1 h2)
    · exact vt_no
  | .ss a, e, lm, sc, X, W, x, t, s => by
    unfold chk; split
    · refine vt_bb rfl fun h => ?_
      obtain ⟨h1, h⟩ := ba h
      obtain ⟨h2, h⟩ := ba h
      obtain ⟨h3, h⟩ := ba h
      obtain ⟨h4, h⟩ := ba h
      obtain ⟨h5, h6⟩ := ba h
      cases of_decide_eq_true h1
      cases of_decide_eq_true h2
      exact eok_ss x x.st (glB_of s.sc h3) (glB_of s.sc h4) ((chk_ok a x t s).1 h5) h6
    · exact vt_no
  | .join a b, e, lm, sc, X, W, x, t, s => by
    unfold chk; split
    · refine vt_bb rfl fun h => ?_
      obtain ⟨h1, u2⟩ := ba h
      obtain ⟨h2, u3⟩ := ba u2
      obtain ⟨h3, u4⟩ := ba u3
      obtain ⟨h4, u5⟩ := ba u4
      obtain ⟨h5, h6⟩ := ba u5
      cases of_decide_eq_true h1
      exact eok_join x ((chk_ok a x t s).1 h2) ((chk_ok b x t s).1 h3) h4 h5 h6
    · exact vt_no
  | .split a b, e, lm, sc, X, W, x, t, s => by
    unfold chk; split
    · refine vt_bb rfl fun h => ?_
      obtain ⟨h1, u2⟩ := ba h
      obtain ⟨h2, u3⟩ := ba u2
      obtain ⟨h3, u4⟩ := ba u3
      obtain ⟨h4, u5⟩ := ba u4
      obtain ⟨h5, h6⟩ := ba u5
      cases of_decide_eq_true h1
      exact eok_split x ((chk_ok a x t s).1 h2) ((chk_ok b x t s).1 h3) h4 h5 h6
    · exact vt_no
  | .idx a b, e, lm, sc, X, W, x, t, s => by
    unfold chk; split
    · refine vt_bb rfl fun h => ?_
      obtain ⟨h1, u2⟩ := ba h
      obtain ⟨h2, u3⟩ := ba u2
      obtain ⟨h3, u4⟩ := ba u3
      obtain ⟨h4, u5⟩ := ba u4
      obtain ⟨h5, h6⟩ := ba u5
      cases of_decide_eq_true h1
      exact eok_idx x ((chk_ok a x t s).1 h2) ((chk_ok b x t s).1 h3) h4 h5 h6
    · exact vt_no
  | .inS neg i a, e, lm, sc, X, W, x, t, s => by
    unfold chk; split
    · refine ⟨fun h => ?_, fun h => ?_⟩ <;>
      · obtain ⟨h1, u2⟩ := ba h
        obtain ⟨h2, h3⟩ := ba u2
        cases of_decide_eq_true h1
        first
          | exact eok_inS x (varB_of s.N s.sc h2) ((chk_ok a x t s).1 h3)
          | exact tok_inS x (varB_of s.N s.sc h2) ((chk_ok a x t s).1 h3)
    · exact vt_no
  | .lenv i, e, lm, sc, X, W, x, t, s => by
    unfold chk; split
    · refine vt_bb rfl fun h => ?_
      obtain ⟨h1, u2⟩ := ba h
      obtain ⟨h2, h3⟩ := ba u2
      cases of_decide_eq_true h1
      exact eok_lenv x (varB_of s.N s.sc h3) (glB_of s.sc h2)
    · exact vt_no
  | .nil i, e, lm, sc, X, W, x, t, s => by
    unfold chk; split
    · exact ⟨fun h => eok_nil x (varB_of s.N s.sc h), fun h => tok_nil x (varB_of s.N s.sc h)⟩
    · exact vt_no
  | .lrg a b, e, lm, sc, X, W, x, t, s => by
    unfold chk; split
    · refine vt_bb rfl fun h => ?_
      obtain ⟨h1, h⟩ := ba h
      obtain ⟨h2, h⟩ := ba h
      obtain ⟨h3, h⟩ := ba h
      obtain ⟨h4, h⟩ := ba h
      obtain ⟨h5, h⟩ := ba h
      obtain ⟨h6, h⟩ := ba h
      obtain ⟨h7, h8⟩ := ba h
      cases of_decide_eq_true h1
      cases of_decide_eq_true h2
      exact eok_lrg x (glB_of s.sc h3) (glB_of s.sc h4) ((chk_ok a x t s).1 h5) ((chk_ok b x t s).1 h6) h7 h8
    · exact vt_no
  | .call0 f, e, lm, sc, X, W, x, t, s => by
    unfold chk; split
    · rename_i y p pos
      refine vt_bb rfl fun h => ?_
      obtain ⟨h1, h2⟩ := ba h
      split at h1
      · rename_i q eq
        cases of_decide_eq_true h1
        obtain ⟨g2, g3⟩ := t.fn f _ eq
        show EOk C X W _ (callR (Δ f) false fun ρ => .ok [] ρ)
        rw [← g2]
        exact eok_call0 x g3 (by rw [g2]; exact glB_of s.sc h2)
      · cases h1
    · exact vt_no
  | .call f nw as, e, lm, sc, X, W, x, t, s => by
    unfold chk; split
    · rename_i y p e' es pos
      refine vt_bb rfl fun h => ?_
      obtain ⟨h1, u2⟩ := ba h
      obtain ⟨h2, u3⟩ := ba u2
      obtain ⟨h3, u4⟩ := ba u3
      obtain ⟨h4, h5⟩ := ba u4
      split at h1
      · rename_i q eq
        cases of_decide_eq_true h1
        obtain ⟨g2, g3⟩ := t.fn f _ eq
        show EOk C X W _ (callR (Δ f) nw (denA Δ G as))
        rw [← g2]
        exact eok_call x g3 (chkA_ok as x t s h3) (by rw [g2]; exact glB_of s.sc h2) h4 h5
      · cases h1
    · exact vt_no
  | .comp p own it ts elt, e, lm, sc, X, W, x, t, s => by
    unfold chk; split
    · rename_i el tg iter ifs z scope pos
      refine vt_bb rfl fun h => ?_
      obtain ⟨h1, u2⟩ := ba h
      obtain ⟨h2, u3⟩ := ba u2
      obtain ⟨h3, u4⟩ := ba u3
      obtain ⟨h4, u5⟩ := ba u4
      obtain ⟨h5, u6⟩ := ba u5
      obtain ⟨h6, u7⟩ := ba u6
      obtain ⟨h7, h8⟩ := ba u7
      cases of_decide_eq_true h1
      have sb := s.N
      have sb2 := s.sc
      exact eok_lc x (by rw [s.N, s.sc]; exact blkOk_by h2) (chkI_ok it x t s h3) (fun s' H A cl fp => chkP_ok (X := Blk X scope s' H A cl fp) x.nd x.calm (sc_blk s scope s' H A cl fp).N (sc_blk s scope s' H A cl fp).sc rfl h4)
        (fun s' H A cl fp => (chkT_ok ts (xok_blk x scope s' H A cl fp) (tx_blk t scope s' H A cl fp) (sc_blk s scope s' H A cl fp) h5).1) (fun s' H A cl fp => (chk_ok elt (xok_blk x scope s' H A cl fp) (tx_blk t scope s' H A cl fp) (sc_blk s scope s' H A cl fp)).1 h6)
        (chkT_sh ts h5) (fun i hi => by
          have := List.all_eq_true.mp h8 i hi
          simpa using this) (notSet_of h7 _)
    · exact vt_no
  | .told a, e, lm, sc, X, W, x, t, s => by
    unfold chk; split
    · refine vt_bb rfl fun h => ?_
      obtain ⟨h1, u2⟩ := ba h
      obtain ⟨h2, u3⟩ := ba u2
      obtain ⟨h3, u4⟩ := ba u3
      obtain ⟨h4, h5⟩ := ba u4
      cases of_decide_eq_true h2
      exact eok_told x (s.td h1) (glB_of s.sc h3) (by rw [s.sc]; exact lamS_by h4) fun A outer s' H E f c' xl => (chk_ok (lm := false) a xl ⟨t.fn, t.gl, t.ex⟩ ⟨s.N, rfl, fun z => Bool.noConfusion z⟩).1 h5
    · exact vt_no
theorem chks_ok : ∀ (ir : IEs) {es : List Expr} {lm : Bool} {sc : Scope} {X : Cx} {W : XW}, XOk C k X W → Tx X C k Δ G fns exs → Sc C k lm X N sc → (chks fns G N lm sc ir es).1 = true → AOk C X W es (dens Δ G ir) ∧ es.all plainE = true
  | .nil, es, lm, sc, X, W, x, t, s, h => by
    unfold chks at h; split at h
    · exact ⟨aok_nil, rfl⟩
    · cases h
  | .cons a r, es, lm, sc, X, W, x, t, s, h => by
    unfold chks at h; split at h
    · obtain ⟨h1, u2⟩ := ba h
      obtain ⟨h2, h3⟩ := ba u2
      obtain ⟨g1, g2⟩ := chks_ok r x t s h3
      exact ⟨aok_cons ((chk_ok a x t s).1 h2) g1 h1, by rw [List.all_cons, h1, g2]; rfl⟩
    · cases h
theorem chk_and : ∀ (ir : IEs) {es : List Expr} {pos : Pos} {lm : Bool} {sc : Scope} {X : Cx} {W : XW}, XOk C k X W → Tx X C k Δ G fns exs → Sc C k lm X N sc →
    ((chks fns G N lm sc ir es).1 = true → ir.len ≠ 0 → EOk C X W (.BoolOp .And es pos) (denAnd Δ G ir)) ∧ ((chks fns G N lm sc ir es).2 = true → ir.len ≠ 0 → WOk C X W (.BoolOp .And es pos) (denAnd Δ G ir))
  | .nil, es, pos, lm, sc, X, W, x, t, s => ⟨fun _ h => absurd rfl h, fun _ h => absurd rfl h⟩
  | .cons a r, es, pos, lm, sc, X, W, x, t, s => by
    unfold chks; split
    · rename_i e es'
      constructor
      · intro h _
        obtain ⟨h1, u2⟩ := ba h
        obtain ⟨h2, h3⟩ := ba u2
        cases r with
        | nil =>
          unfold chks at h3; split at h3
          · exact eok_one ((chk_ok a x t s).1 h2)
          · cases h3
        | cons b r' =>
          have ih := (chk_and (.cons b r') (es := es') (pos := pos) x t s).1 h3 (Nat.succ_ne_zero _)
          cases es' with
          | nil => unfold chks at h3; cases h3
          | cons e2 es2 => exact eok_and ((chk_ok a x t s).1 h2) ih
      · intro h _
        obtain ⟨h1, u2⟩ := ba h
        obtain ⟨h2, h3⟩ := ba u2
        cases r with
        | nil =>
          unfold chks at h3; split at h3
          · exact wok_and1 ((chk_ok a x t s).2 h2)
          · cases h3
        | cons b r' =>
          have ih := (chk_and (.cons b r') (es := es') (pos := pos) x t s).2 h3 (Nat.succ_ne_zero _)
          cases es' with
          | nil => unfold chks at h3; cases h3
          | cons e2 es2 => exact wok_and ((chk_ok a x t s).2 h2) ih
    · exact ⟨(fun h => nomatch h), (fun h => nomatch h)⟩
theorem chk_or : ∀ (ir : IEs) {es : List Expr} {pos : Pos} {lm : Bool} {sc : Scope} {X : Cx} {W : XW}, XOk C k X W → Tx X C k Δ G fns exs → Sc C k lm X N sc →
    ((chks fns G N lm sc ir es).1 = true → ir.len ≠ 0 → EOk C X W (.BoolOp .Or es pos) (denOr Δ G ir)) ∧ ((chks fns G N lm sc ir es).2 = true → ir.len ≠ 0 → WOk C X W (.BoolOp .Or es pos) (denOr Δ G ir))
  | .nil, es, pos, lm, sc, X, W, x, t, s => ⟨fun _ h => absurd rfl h, fun _ h => absurd rfl h⟩
  | .cons a r, es, pos, lm, sc, X, W, x, t, s => by
    unfold chks; split
    · rename_i e es'
      constructor
      · intro h _
        obtain ⟨h1, u2⟩ := ba h
        obtain ⟨h2, h3⟩ := ba u2
        cases r with
        | nil =>
          unfold chks at h3; split at h3
          · exact eok_one ((chk_ok a x t s).1 h2)
          · cases h3
        | cons b r' =>
          have ih := (chk_or (.cons b r') (es := es') (pos := pos) x t s).1 h3 (Nat.succ_ne_zero _)
          cases es' with
          | nil => unfold chks at h3; cases h3
          | cons e2 es2 => exact eok_or ((chk_ok a x t s).1 h2) ih
      · intro h _
        obtain ⟨h1, u2⟩ := ba h
        obtain ⟨h2, h3⟩ := ba u2
        cases r with
        | nil =>
          unfold chks at h3; split at h3
          · exact wok_or1 ((chk_ok a x t s).2 h2)
          · cases h3
        | cons b r' =>
          have ih := (chk_or (.cons b r') (es := es') (pos := pos) x t s).2 h3 (Nat.succ_ne_zero _)
          cases es' with
          | nil => unfold chks at h3; cases h3
          | cons e2 es2 => exact wok_or ((chk_ok a x t s).2 h2) ih
    · exact ⟨(fun h => nomatch h), (fun h => nomatch h)⟩
theorem chkO_ok : ∀ (ir : IO) {e : Option Expr} {lm : Bool} {sc : Scope} {X : Cx} {W : XW}, XOk C k X W → Tx X C k Δ G fns exs → Sc C k lm X N sc → chkO fns G N lm sc ir e = true → OOk C X W e (denO Δ G ir)
  | .non, e, lm, sc, X, W, x, t, s, h => by
    unfold chkO at h; split at h
    · exact ook_non
    · cases h
  | .som a, e, lm, sc, X, W, x, t, s, h => by
    unfold chkO at h; split at h
    · exact ook_som ((chk_ok a x t s).1 h)
    · cases h
theorem chkA_ok : ∀ (ir : IAs) {nw : Bool} {es : List Expr} {lm : Bool} {sc : Scope} {X : Cx} {W : XW}, XOk C k X W → Tx X C k Δ G fns exs → Sc C k lm X N sc → chkA fns G N lm sc nw ir es = true → GOk C X W nw es (denA Δ G ir)
  | .nil, nw, es, lm, sc, X, W, x, t, s, h => by
    unfold chkA at h; split at h
    · rw [bn h]; exact gok_nil
    · rw [h]; exact gok_new
    · cases h
  | .val a r, nw, es, lm, sc, X, W, x, t, s, h => by
    unfold chkA at h; split at h
    · obtain ⟨h1, u2⟩ := ba h
      obtain ⟨h2, h3⟩ := ba u2
      exact gok_cons (g1_dat ((chk_ok a x t s).1 h2)) (chkA_ok r x t s h3) h1
    · cases h
  | .slo i r, nw, es, lm, sc, X, W, x, t, s, h => by
    unfold chkA at h; split at h
    · obtain ⟨h1, h2⟩ := ba h
      have v := varB_of s.N s.sc h1
      exact gok_cons (g1_slo v.at_ v.vis v.nd v.nc) (chkA_ok r x t s h2) rfl
    · cases h
theorem chkI_ok : ∀ (ir : II) {tg e : Expr} {lm : Bool} {sc : Scope} {X : Cx} {W : XW}, XOk C k X W → Tx X C k Δ G fns exs → Sc C k lm X N sc → chkI fns G N lm sc (isTupT tg) ir e = true → IOk C X W tg e (denI Δ G ir)
  | .dat a, tg, e, lm, sc, X, W, x, t, s, h => by
    unfold chkI at h
    exact iok_dat ((chk_ok a x t s).1 h)
  | .rng1 a, tg, e, lm, sc, X, W, x, t, s, h => by
    unfold chkI at h; split at h
    · obtain ⟨h1, u2⟩ := ba h
      obtain ⟨h2, u3⟩ := ba u2
      obtain ⟨h3, h4⟩ := ba u3
      cases of_decide_eq_true h1
      exact iok_rng1 x (glB_of s.sc h2) ((chk_ok a x t s).1 h3) h4
    · cases h
  | .rng2 a b, tg, e, lm, sc, X, W, x, t, s, h => by
    unfold chkI at h; split at h
    · obtain ⟨h1, u2⟩ := ba h
      obtain ⟨h2, u3⟩ := ba u2
      obtain ⟨h3, u4⟩ := ba u3
      obtain ⟨h4, u5⟩ := ba u4
      obtain ⟨h5, h6⟩ := ba u5
      cases of_decide_eq_true h1
      exact iok_rng2 x (glB_of s.sc h2) ((chk_ok a x t s).1 h3) ((chk_ok b x t s).1 h5) h4 h6
    · cases h
  | .enm a, tg, e, lm, sc, X, W, x, t, s, h => by
    unfold chkI at h; split at h
    · obtain ⟨h0, u1⟩ := ba h
      obtain ⟨h1, u2⟩ := ba u1
      obtain ⟨h2, u3⟩ := ba u2
      obtain ⟨h3, h4⟩ := ba u3
      cases of_decide_eq_true h1
      cases tg <;> first | cases h0 | skip
      exact iok_enum x (glB_of s.sc h2) ((chk_ok a x t s).1 h3) h4
    · cases h
  | .rev a, tg, e, lm, sc, X, W, x, t, s, h => by
    unfold chkI at h; split at h
    · obtain ⟨h1, u2⟩ := ba h
      obtain ⟨h2, u3⟩ := ba u2
      obtain ⟨h3, h4⟩ := ba u3
      cases of_decide_eq_true h1
      exact iok_rev x (glB_of s.sc h2) ((chk_ok a x t s).1 h3) h4
    · cases h
theorem chkT_ok : ∀ (ir : IT) {ifs : List Expr} {lm : Bool} {sc : Scope} {X : Cx}, XOk C k X NoX → Tx X C k Δ G fns exs → Sc C k lm X N sc → chkT fns G N lm sc ir ifs = true → TstOk C X ifs (denT Δ G ir) ∧ True
  | .yes, ifs, lm, sc, X, x, t, s, h => by
    unfold chkT at h; split at h
    · exact ⟨trivial, trivial⟩
    · cases h
  | .tst a, ifs, lm, sc, X, x, t, s, h => by
    unfold chkT at h; split at h
    · exact ⟨(chk_ok a x t s).2 h, trivial⟩
    · cases h
theorem chkT_sh : ∀ (ir : IT) {ifs : List Expr} {lm : Bool} {sc : Scope}, chkT fns G N lm sc ir ifs = true → (ifs = [] ∧ denT Δ G ir = none) ∨ (∃ c m, ifs = [c] ∧ denT Δ G ir = some m)
  | .yes, ifs, lm, sc, h => by
    unfold chkT at h; split at h
    · exact .inl ⟨rfl, rfl⟩
    · cases h
  | .tst a, ifs, lm, sc, h => by
    unfold chkT at h; split at h
    · exact .inr ⟨_, _, rfl, rfl⟩
    · cases h
end
end
end Dm
namespace Dm
open PySem PySem.Spec PyProof.Rows L2 LamX
section
variable {C : Cxt} {k : Nat} {Δ : Nat → Fn} {G : List (Str × D)} {fns : List (Nat × Str)} {N : List Str} {exs : List Exn}
theorem chkF_ok : ∀ (ir : IFs) {es : List Expr} {lm : Bool} {sc : Scope} {X : Cx} {W : XW}, XOk C k X W → Tx X C k Δ G fns exs → Sc C k lm X N sc → chkF fns G N lm sc ir es = true → FsOk C X W es (denF Δ G ir)
  | .nil, es, lm, sc, X, W, x, t, s, h => by
    unfold chkF at h; split at h
    · exact fsok_nil
    · cases h
  | .val a r, es, lm, sc, X, W, x, t, s, h => by
    unfold chkF at h; split at h
    · obtain ⟨h1, u2⟩ := ba h
      obtain ⟨h2, h3⟩ := ba u2
      exact fsok_val ((chk_ok a x t s).1 h2) (chkF_ok r x t s h3) h1
    · cases h
  | .lst r, es, lm, sc, X, W, x, t, s, h => by
    unfold chkF at h; split at h
    · exact fsok_lst (chkF_ok r x t s h)
    · cases h
  | .dct r, es, lm, sc, X, W, x, t, s, h => by
    unfold chkF at h; split at h
    · exact fsok_dct (chkF_ok r x t s h)
    · cases h
theorem nmsB_ok {X : Cx} {sc : Scope} (eN : X.N = N) (es : X.env.scope = sc) (ef : ∀ x, X.fn x = true) : ∀ {is : List Nat} {ts : List Expr}, nmsB N sc is ts = true → NmsOk X is ts
  | [], [], _ => trivial
  | [], _ :: _, h => by cases h
  | i :: is, [], h => by cases h
  | i :: is, t :: ts, h => by
    cases t with
    | Name x p =>
      obtain ⟨h1, h2⟩ := ba h
      obtain ⟨g1, g2⟩ := setB_of eN es (funext ef : X.fn = fun _ => true) h1
      exact ⟨g1, g2, nmsB_ok eN es ef h2⟩
    | _ => cases h
mutual
theorem chkS_ok : ∀ (ir : IS) {st : Stmt} {lm : Bool} {sc : Scope} {X : Cx} {W : XW}, XS C k X W → Tx X C k Δ G fns exs → Sc C k lm X N sc → chkS fns G N exs lm sc ir st = true → SOk C X W st (denS Δ G ir)
  | .pass, st, lm, sc, X, W, x, t, s, h => by
    unfold chkS at h; split at h
    · exact sok_pass
    · cases h
  | .brk, st, lm, sc, X, W, x, t, s, h => by
    unfold chkS at h; split at h
    · exact sok_break
    · cases h
  | .expr a, st, lm, sc, X, W, x, t, s, h => by
    unfold chkS at h; split at h
    · obtain ⟨h1, h2⟩ := ba h
      exact sok_expr ((chk_ok a x.xo t s).1 h1) h2
    · cases h
  | .ret a, st, lm, sc, X, W, x, t, s, h => by
    unfold chkS at h; split at h
    · exact sok_ret ((chk_ok a x.xo t s).1 h)
    · cases h
  | .ifs c a b, st, lm, sc, X, W, x, t, s, h => by
    unfold chkS at h; split at h
    · obtain ⟨h1, u2⟩ := ba h
      obtain ⟨h2, h3⟩ := ba u2
      exact sok_if ((chk_ok c x.xo t s).2 h1) (chkSs_ok a x t s h2) (chkSs_ok b x t s h3)
    · cases h
  | .raise c, st, lm, sc, X, W, x, t, s, h => by
    unfold chkS at h; split at h
    · obtain ⟨h1, u2⟩ := ba h
      obtain ⟨h2, h3⟩ := ba u2
      cases of_decide_eq_true h1
      exact sok_raise x.xo (t.ex c (by simpa using h3)) (glB_of s.sc h2)
    · cases h
  | .set i a, st, lm, sc, X, W, x, t, s, h => by
    unfold chkS at h; split at h
    · rename_i y py e pos
      obtain ⟨h1, h2⟩ := ba h
      by_cases hn : (noLc e || !(sc.names.lookup y == some .local)) = true
      · rw [if_pos hn] at h2
        have h2' := (setB_of s.N s.sc (funext x.fn : X.fn = fun _ => true) h2).1
        rcases Bool.or_eq_true_iff.mp hn with hn | hn
        · exact sok_set x h2' ((chk_ok a x.xo t s).1 h1) hn
        · exact sok_setC x h2' ((chk_ok a x.xo t s).1 h1) (by rw [s.sc]; exact bn hn)
      · rw [if_neg hn] at h2
        obtain ⟨h3, u4⟩ := ba h2
        obtain ⟨h4, h5⟩ := ba u4
        cases e with
        | ListComp el gs scope pos' =>
          obtain ⟨h6, h7⟩ := ba h5
          -- the comprehension's parts
          cases a with
          | comp p own it ts elt =>
            unfold chk at h1
            split at h1
            · rename_i el' tg iter ifs z scope' pos2 heq
              cases heq
              obtain ⟨g1, v2⟩ := ba h1
              obtain ⟨g2, v3⟩ := ba v2
              obtain ⟨g3, v4⟩ := ba v3
              obtain ⟨g4, v5⟩ := ba v4
              obtain ⟨g5, v6⟩ := ba v5
              obtain ⟨g6, v7⟩ := ba v6
              obtain ⟨g7, g8⟩ := ba v7
              cases of_decide_eq_true g1
              exact sok_setLc x (by rw [s.N]; exact atB_of h3) (by rw [s.sc]; exact isLocal_of h4) h6 (bn h7) (by rw [s.N, s.sc]; exact blkOk_by g2) (chkI_ok it x.xo t s g3)
                (fun s' H A cl fp => chkP_ok (X := Blk X scope s' H A cl fp) x.xo.nd x.xo.calm (sc_blk s scope s' H A cl fp).N (sc_blk s scope s' H A cl fp).sc rfl g4)
                (fun s' H A cl fp => (chkT_ok ts (xok_blk x.xo scope s' H A cl fp) (tx_blk t scope s' H A cl fp) (sc_blk s scope s' H A cl fp) g5).1) (fun s' H A cl fp => (chk_ok elt (xok_blk x.xo scope s' H A cl fp) (tx_blk t scope s' H A cl fp) (sc_blk s scope s' H A cl fp)).1 g6)
                (chkT_sh (C := C) (k := k) (exs := exs) ts g5) (fun i hi => by
                  have := List.all_eq_true.mp g8 i hi
                  simpa using this) (notSet_of g7 _)
            · cases h1
          | _ => unfold chk at h1; cases h1
        | _ => cases h5
    · cases h
  | .setL i, st, lm, sc, X, W, x, t, s, h => by
    unfold chkS at h; split at h
    · exact sok_setL x (setB_of s.N s.sc (funext x.fn : X.fn = fun _ => true) h).1
    · cases h
  | .setD i, st, lm, sc, X, W, x, t, s, h => by
    unfold chkS at h; split at h
    · exact sok_setD x (setB_of s.N s.sc (funext x.fn : X.fn = fun _ => true) h).1
    · cases h
  | .asg p a, st, lm, sc, X, W, x, t, s, h => by
    unfold chkS at h; split at h
    · obtain ⟨h1, u2⟩ := ba h
      obtain ⟨h2, u3⟩ := ba u2
      obtain ⟨h3, u4⟩ := ba u3
      obtain ⟨h4, h5⟩ := ba u4
      exact sok_asg x (chkP_ok x.xo.nd x.xo.calm s.N s.sc (funext x.fn : X.fn = fun _ => true) h1) ((chk_ok a x.xo t s).1 h2) h3 h4 h5
    · cases h
  | .par i j fs, st, lm, sc, X, W, x, t, s, h => by
    unfold chkS at h; split at h
    · obtain ⟨h1, u2⟩ := ba h
      obtain ⟨h2, u3⟩ := ba u2
      obtain ⟨h3, u4⟩ := ba u3
      obtain ⟨h4, u5⟩ := ba u4
      obtain ⟨h5, u6⟩ := ba u5
      obtain ⟨h6, h7⟩ := ba u6
      exact sok_par x (by rw [s.N]; exact atB_of h1) (by rw [s.N]; exact atB_of h2) (of_decide_eq_true h3) (by rw [s.sc]; exact isLocal_of h4) (by rw [s.sc]; exact isLocal_of h5) (chkF_ok fs x.xo t s h6) (by rw [s.sc]; exact of_decide_eq_true h7)
    · cases h
  | .asgF is fs, st, lm, sc, X, W, x, t, s, h => by
    unfold chkS at h; split at h
    · obtain ⟨h1, u2⟩ := ba h
      obtain ⟨h2, u3⟩ := ba u2
      obtain ⟨h3, h4⟩ := ba u3
      exact sok_asgF x (nmsB_ok s.N s.sc x.fn h1) (chkF_ok fs x.xo t s h2) (by rw [s.sc]; exact of_decide_eq_true h3) (of_decide_eq_true h4)
    · cases h
  | .aug i a, st, lm, sc, X, W, x, t, s, h => by
    unfold chkS at h; split at h
    · obtain ⟨h1, h2⟩ := ba h
      exact sok_aug x (setB_of s.N s.sc (funext x.fn : X.fn = fun _ => true) h1).1 ((chk_ok a x.xo t s).1 h2)
    · cases h
  | .st i a b, st, lm, sc, X, W, x, t, s, h => by
    unfold chkS at h; split at h
    · obtain ⟨h1, u2⟩ := ba h
      obtain ⟨h2, u3⟩ := ba u2
      obtain ⟨h3, u4⟩ := ba u3
      obtain ⟨h4, u5⟩ := ba u4
      obtain ⟨h5, h6⟩ := ba u5
      exact sok_st x (varB_of s.N s.sc h1) ((chk_ok a x.xo t s).1 h2) ((chk_ok b x.xo t s).1 h3) h4 h5 (bn h6)
    · cases h
  | .app i a, st, lm, sc, X, W, x, t, s, h => by
    unfold chkS at h; split at h
    · obtain ⟨h1, u2⟩ := ba h
      obtain ⟨h2, u3⟩ := ba u2
      obtain ⟨h3, u4⟩ := ba u3
      obtain ⟨h4, h5⟩ := ba u4
      cases of_decide_eq_true h1
      exact sok_app x.xo (varB_of s.N s.sc h2) ((chk_ok a x.xo t s).1 h3) h4 h5
    · cases h
  | .for_ p it body, st, lm, sc, X, W, x, t, s, h => by
    unfold chkS at h; split at h
    · obtain ⟨h1, u2⟩ := ba h
      obtain ⟨h2, u3⟩ := ba u2
      obtain ⟨h3, h4⟩ := ba u3
      exact sok_for x (chkI_ok it x.xo t s h1) (chkP_ok x.xo.nd x.xo.calm s.N s.sc (funext x.fn : X.fn = fun _ => true) h2) (chkSs_ok body x t s h3) (notSet_of h4 _)
    · cases h
  | .while_ n c body, st, lm, sc, X, W, x, t, s, h => by
    unfold chkS at h; split at h
    · obtain ⟨h1, h2⟩ := ba h
      exact sok_while x ((chk_ok c x.xo t s).2 h1) (chkSs_ok body x t s h2)
    · cases h
theorem chkSs_ok : ∀ (ir : ISs) {st : List Stmt} {lm : Bool} {sc : Scope} {X : Cx} {W : XW}, XS C k X W → Tx X C k Δ G fns exs → Sc C k lm X N sc → chkSs fns G N exs lm sc ir st = true → SsOk C X W st (denSs Δ G ir)
  | .nil, st, lm, sc, X, W, x, t, s, h => by
    unfold chkSs at h; split at h
    · exact ssok_nil
    · cases h
  | .cons a r, st, lm, sc, X, W, x, t, s, h => by
    unfold chkSs at h; split at h
    · obtain ⟨h1, h2⟩ := ba h
      exact ssok_cons (chkS_ok a x t s h1) (chkSs_ok r x t s h2)
    · cases h
end
/-! ### a def, by its data -/
structure FnI where
  name : Str
  N : List Str
  ps : List Str
  lm : Bool
  body : ISs
def scopeB (N ps : List Str) (sc : Scope) : Bool :=
  (match sc.kind with | .function => true | _ => false) && (!sc.isCoroutine && (!sc.isGenerator && (decide N.Nodup && (decide (N.take ps.length = ps) && ((ps.all fun x => locB sc x) && sc.names.all fun y => match y.2 with
    | .free => false
    | _ => true)))))
theorem scopeB_of {N ps : List Str} {sc : Scope} (h : scopeB N ps sc = true) : FnScope N ps sc := by
  obtain ⟨h1, u2⟩ := ba h
  obtain ⟨h2, u3⟩ := ba u2
  obtain ⟨h3, u4⟩ := ba u3
  obtain ⟨h4, u5⟩ := ba u4
  obtain ⟨h5, u6⟩ := ba u5
  obtain ⟨h6, h7⟩ := ba u6
  refine ⟨?_, bn h2, bn h3, of_decide_eq_true h4, of_decide_eq_true h5, fun x hx => ?_, fun y hy e => ?_⟩
  · split at h1
    · assumption
    · cases h1
  · exact locB_of (List.all_eq_true.mp h6 x hx)
  · have := List.all_eq_true.mp h7 y hy
    rw [e] at this
    cases this
/-- what a def's data means, among others -/
def FnI.fn (Δ : Nat → Fn) (G : List (Str × D)) (f : FnI) : Fn := ⟨f.name, f.ps.length, runF f.N.length (denSs Δ G f.body)⟩
def FnI.ok (fns : List (Nat × Str)) (G : List (Str × D)) (exs : List Exn) (f : FnI) (sc : Scope) (body : List Stmt) : Bool := scopeB f.N f.ps sc && chkSs fns G f.N exs f.lm sc f.body body
/-- the text at a place: what it offers at the depth k -/
structure TxG (P : Program) (w : World) (K : PySem.W.Frag) (mg : Str → Option Value) (base : Heap) (C : Cxt) (k : Nat) (Δ : Nat → Fn) (G : List (Str × D)) (fns : List (Nat × Str)) (exs : List Exn) : Prop where
  fn : ∀ (f : Nat) q, fns.lookup f = some q → (Δ f).name = q ∧ AvG P w K mg base C k (Δ f)
  gl : ∀ (g : Nat) q, G[g]? = some q → ∃ u v, mg q.1 = some u ∧ RelV v u ∧ ∀ W H, Rp K W H v q.2
  ex : ∀ c, c ∈ exs → ExAv P K mg C c
/-- a def that makes lambdas -/
structure MkOk (K : PySem.W.Frag) (mg : Str → Option Value) (base : Heap) (C : Cxt) (p : Str × Option Str) (fa : Addr) (q : Str) : Prop where
  at_ : He.fAd K p = fa
  tb : TabB base mg (He.codeOf K p) (He.tabOf K (He.codeOf K p))
  mem : (He.tabOf K (He.codeOf K p), q) ∈ C.T
  un : ∀ z ∈ C.T, z.1 = He.tabOf K (He.codeOf K p) → z.2 = q
  td : ToldD K mg C.exa
theorem def_ok {P : Program} {w : World} {K : PySem.W.Frag} {mg : Str → Option Value} {base : Heap} {f : FnI} {x qual : Str} {params : Arguments} {body : List Stmt} {scope : Scope} {fa : Addr} {fd : FuncData} {kws : List (Str × V)}
    (F : FunD K x qual params body scope [] kws fa fd) (mk : f.lm = true → ∃ p, MkOk K mg base C p fa ((envOfC qual scope 0 0 .none).qual ++ "<lambda>")) (fr : Frees mg) (t : TxG P w K mg base C k Δ G fns exs) (h : f.ok fns G exs scope body = true) :
    FnOk P w K mg base (L2N.CX P w) (k + 3 + 1) fa fd f.ps (spOf P w K C (f.fn Δ G)) := by
  obtain ⟨h1, h2⟩ := ba h
  exact fun_ok F (scopeB_of h1) fr fun X W xf => by
    obtain ⟨xs, rfl, rfl, rfl, rfl, rfl, e1, e2, rm, cd, q⟩ := xf
    refine chkSs_ok f.body xs ⟨t.fn, t.gl, t.ex⟩ ⟨e1, e2, fun z => ?_⟩ h2
    obtain ⟨p, m⟩ := mk z
    exact ⟨rm, ⟨_, _, cd p m.at_, m.tb, by rw [q]; exact m.mem, by rw [q]; exact m.un⟩, m.td⟩
end
end Dm
namespace Dm
open PySem PySem.Spec PyProof.Rows L2 LamX
/-! ### a list of new lists -/
abbrev lsI (nss : List (List Int)) : List D := nss.map fun ns => PyData.list (ns.map .int)
/-- the addresses as hold lists of ints nss -/
abbrev Cells (H : Hp) (as : List Addr) (nss : List (List Int)) : Prop := Paired (fun a ns => H a = some (.lst (ns.map V.int))) as nss
theorem Cells.mono {H H' : Hp} {as : List Addr} {nss : List (List Int)} (c : Cells H as nss) (h : ∀ a ∈ as, ∀ o, H a = some o → H' a = some o) : Cells H' as nss := by
  induction c with
  | nil => exact .nil
  | cons r t ih => exact .cons (h _ List.mem_cons_self _ r) (ih fun a ha => h a (List.mem_cons_of_mem _ ha))
theorem Cells.lst {H : Hp} {as : List Addr} {nss : List (List Int)} (c : Cells H as nss) {a : Addr} (h : a ∈ as) : ∃ xs, H a = some (.lst xs) := by
  induction c with
  | nil => cases h
  | cons r t ih =>
    rcases List.mem_cons.mp h with z | z
    · rw [z]; exact ⟨_, r⟩
    · exact ih z
theorem R.forget {P : Program} {w : World} {K : PySem.W.Frag} {C : Cxt} {pa : Nat → Addr} {U : AP} {σ : St} {H : Hp} {ρ ρ' : Rho} (r : R P w K C pa U σ H ρ) (hl : ρ'.length = ρ.length) (h : ∀ (i : Nat) s, ρ'[i]? = some s → s = .un ∨ ρ[i]? = some s) : Sq P w K C pa U σ H ρ σ H ρ' := by
  have own : ∀ j a, OwnAt σ ρ' j a → OwnAt σ ρ j a := by
    rintro j a ⟨s, h1, h2, h3⟩
    rcases h j s h1 with e | e
    · subst e; cases h2
    · exact ⟨s, e, h2, h3⟩
  have wd : ∀ a, Wd U σ ρ' a → Wd U σ ρ a := fun a z => z.elim .inl fun ⟨j, z⟩ => .inr ⟨j, own j a z⟩
  refine ⟨⟨by rw [hl]; exact r.len, r.dom, r.tabs, fun a ⟨j, z⟩ => r.out a ⟨j, own j a z⟩, fun i j a h1 h2 => r.apart i j a (own i a h1) (own j a h2), fun i s hi => ?_⟩, Gr.refl H, fun a ⟨j, z⟩ => .inl ⟨j, own j a z⟩⟩
  rcases h i s hi with e | e
  · subst e; trivial
  · exact (r.slot i s e).kp (Kp.less wd) fun p o _ _ q => q
section
variable {X : Cx} {C : Cxt} {W : XW} {k : Nat}
theorem map_snoc {α β : Type} (f : α → β) (l : List α) (a : α) : (l ++ [a]).map f = l.map f ++ [f a] := by simp
/-- a comprehension of list displays of ints: new lists, apart -/
theorem lcO_read {tg iter : Expr} {es : List Expr} {lpos : Pos} {scope : Scope} {own : List (Str × Nat)} {p : Pt} {it : Rho → Res (List D)} {em : Rho → Res (List D)} {n : Nat} (x : XOk C k X W) (ok : BlkOk X.N X.env.scope scope own)
    (hi : IOk C X W tg iter it) (hg : ∀ s H A cl fp, TgOk C (Blk X scope s H A cl fp) p tg) (he : ∀ s H A cl fp, AOk C (Blk X scope s H A cl fp) NoX es em) (hn : LenIs em n) (hz : n ≤ 1000)
    (hp : ∀ i ∈ p.ixs, i ∈ own.map (·.2)) {pa U} {σ : St} {H : Hp} {ρ ρ1 ρend : Rho} {Q : VK} {ds : List D} {nss : List (List Int)} (r : RX X C pa U σ H ρ) (h1 : it ρ = .ok ds ρ1) (h2 : ds.length ≤ 1000000) (h3 : freeB ρ1 (own.map (·.2)) = true)
    (h4 : compL p (own.map (·.2)) none (lstR em) ds (wiped ρ1 (own.map (·.2))) = .ok (lsI nss) ρend)
    (h : ∀ L as H' ρ', SqX X C pa U σ H ρ σ H' ρ' → H L = none → (∀ a ∈ as, H a = none) → as.Nodup → L ∉ as → H' L = some (.lst (as.map .ref)) → Cells H' as nss → Q (.ref L) H') :
    tLc (tiSem X tg iter) (uG X scope tg) tYes (uE X scope (.List es lpos)) (own.map (·.2)) σ H Q := by
  generalize hvs : own.map (·.2) = vs at h3 h4 hp ⊢
  refine hi pa U σ H ρ _ r ?_
  rw [h1]
  intro H1 q1 J wk L hL
  have back : ∀ a, H1 a = none → H a = none := fun a z => by
    cases e : H a with
    | none => rfl
    | some o => exact absurd z (q1.gr.dom a (by rw [e]; simp))
  let Un : List Addr → AP := fun as a => U a ∨ a = L ∨ a ∈ as
  have sub : ∀ as a, U a → Un as a := fun as a z => .inl z
  have nL : ¬ Wd U σ ρ1 L := q1.r.fresh hL
  let Iv : Nat → Nat → Hp → Prop := fun i m H' => m = ds.length - i ∧ i ≤ ds.length ∧ ∃ (ρi : Rho) (as : List Addr) (accN rest : List (List Int)), SqX X C pa U σ H1 ρ1 (wipe σ vs) H' ρi ∧ RX X C pa (Un as) (wipe σ vs) H' ρi ∧ H' L = some (.lst (as.map .ref)) ∧
    Cells H' as accN ∧ as.Nodup ∧ L ∉ as ∧ (∀ a ∈ as, H1 a = none) ∧ as.length ≤ i ∧ compL p vs none (lstR em) (ds.drop i) ρi = .ok (lsI rest) ρend ∧ nss = accN ++ rest
  have r1 := (wipe_sq q1.r vs).r
  refine ⟨Iv, ⟨ds.length, rfl, Nat.zero_le _, wiped ρ1 vs, [], [], nss, ?_, ?_, upd_same, .nil, List.nodup_nil, List.not_mem_nil, (fun a z => nomatch z), Nat.le_refl _, h4, rfl⟩, ?_⟩
  · exact (wipe_sq q1.r vs).trans (Sq.ex r1 (Ex.new hL))
  · exact (R.add r1 hL).1.less fun a z => z.elim .inl fun z => z.elim .inr fun z => nomatch z
  · rintro i m H2 ⟨rfl, hi2, ρi, as, accN, rest, sq, rD, hLv, cells, nd, nLa, fr, hlen, hcomp, hnss⟩
    have kpD : Kp (Wd U σ ρ1) H1 (Wd (Un as) (wipe σ vs) ρi) H2 := fun a u e n t => ⟨(sq.kp a u e n t).1, fun z => by
      rcases z with (z | z | z) | z
      · exact (sq.kp a u e n t).2 (.inl z)
      · exact (ne_of_none e hL) z
      · rw [fr a z] at e; cases e
      · exact (sq.kp a u e n t).2 (.inr z)⟩
    rcases Nat.lt_or_ge i ds.length with hlt | hge
    rotate_left
    · left
      have hie : i = ds.length := by omega
      subst hie
      refine ⟨wk.stop _ _ _ kpD (Nat.le_refl _), ?_⟩
      rw [List.drop_length] at hcomp
      simp only [compL, Res.ok.injEq] at hcomp
      obtain ⟨e1, e2⟩ := hcomp
      have e3 : rest = [] := by simpa using e1.symm
      subst e3
      rw [List.append_nil] at hnss
      subst hnss
      obtain ⟨s1, s2⟩ := unwipe q1.r h3 sq
      exact h L as H2 _ (q1.trans s1) (back L hL) (fun a ha => back a (fr a ha)) nd nLa hLv cells
    · right
      have hd : ds[i]? = some ds[i] := List.getElem?_eq_getElem hlt
      obtain ⟨hgo, hyld⟩ := wk.go _ _ i _ kpD (fun a z => rD.wdom z) hd
      refine ⟨hgo, fun H' => Iv (i + 1) (ds.length - (i + 1)) H', fun H' z => ⟨_, by omega, z⟩, fun v H3 hy => ?_⟩
      obtain ⟨hex, rv⟩ := hyld v H3 hy
      rw [List.drop_eq_getElem_cons hlt] at hcomp
      cases hb : bindP p ds[i] ρi with
      | none => simp only [compL, hb, reduceCtorEq] at hcomp
      | some ρb =>
      simp only [compL, hb] at hcomp
      intro s0 H0 A cl fp
      refine (fun (z : ∃ g, PG _ tg g ∧ _) => z) (hg s0 H0 A cl fp) |>.elim fun g ⟨pg, hgq⟩ => ?_
      refine fun pins s u I ru => pg.run pins s _ _ _ _ _ I ru ?_
      refine hgq pa (Un as) (wipe σ vs) H3 ρi v ds[i] ρb _ (rD.ex hex) hb rv fun σ2 sq2 hj => ?_
      have hw2 : wipe σ2 vs = wipe σ vs := wipe_idem σ σ2 vs (by rw [sq2.r.len, bindP_len hb, ← rD.len, wipe_length]) fun j hj' => by rw [hj j (fun z => hj' (hp j z))]
      have sqA : SqX X C pa (Un as) (wipe σ vs) H2 ρi σ2 H3 ρb := (Sq.ex rD hex).trans sq2
      refine ⟨hw2, ?_⟩
      show (if true = true then uE X scope (.List es lpos) σ2 H3 _ else Iv (i + 1) (ds.length - (i + 1)) H3)
      rw [if_pos rfl]
      obtain ⟨y, ρ3, f1, f2⟩ := bind_ok_inv hcomp
      obtain ⟨ysr, ρ4, f3, f4⟩ := bind_ok_inv f2
      simp only [Res.ok.injEq] at f4
      obtain ⟨f5, f6⟩ := f4
      subst f6
      cases rest with
      | nil => simp at f5
      | cons ns rest =>
      simp only [List.map_cons, List.cons.injEq] at f5
      obtain ⟨f5, f7⟩ := f5
      subst f5 f7
      have f1 := nox_ok f1
      unfold lstR at f1
      obtain ⟨xs, ρx, g1, g2⟩ := bind_ok_inv f1
      simp only [Res.ok.injEq, PyData.list.injEq] at g2
      obtain ⟨g2, g3⟩ := g2
      subst g2 g3
      intro s0 H0 A cl fp
      obtain ⟨t, pt, ht⟩ := he s0 H0 A cl fp
      refine sem_of (pe_lst pt) ?_
      refine ht pa (Un as) σ2 H3 ρb _ sqA.r ?_
      rw [g1]
      intro H4 sq4 vs4 rs4
      have sq5 := sqA.trans sq4
      have ev : vs4 = ns.map V.int := Rps.ints rs4
      subst ev
      refine ⟨by
        have := hn _ _ _ g1
        rw [List.length_map] at this
        rw [List.length_map, sizeLine_eq]; omega, fun q hq => ?_⟩
      -- the new list at q
      have keep : ∀ a, (a = L ∨ a ∈ as) → ∀ xs, H2 a = some (.lst xs) → H4 a = some (.lst xs) := fun a ha xs e => sq5.gr.keep a _ e (fun z => rD.out a z (.inr ha)) fun ps z => nomatch z
      have hL4 := keep L (.inl rfl) _ hLv
      have nq : ∀ a, a = L ∨ a ∈ as → a ≠ q := fun a ha e => by
        have : ∃ o, H4 a = some o := by
          rcases ha with ha | ha
          · exact ⟨_, by rw [ha]; exact hL4⟩
          · exact Option.ne_none_iff_exists'.mp (sq5.gr.dom a (rD.dom a (.inr (.inr ha))))
        obtain ⟨o, ho⟩ := this
        rw [e, hq] at ho; cases ho
      have nqL : L ≠ q := nq L (.inl rfl)
      refine ⟨as.map .ref, by rw [upd_ne nqL]; exact hL4, ?_, ?_⟩
      · rw [List.length_map, sizeLine_eq]; omega
      · -- the state behind the turn
        have sqW : SqX X C pa (Un as) σ2 H4 ρx (wipe σ vs) H4 (wiped ρx vs) := by rw [← hw2]; exact wipe_sq sq5.r vs
        obtain ⟨ra, ka⟩ := R.add (o := .lst (ns.map V.int)) sqW.r hq
        obtain ⟨rb, kb⟩ := R.updU (D := L) (xs := as.map .ref) (ys := as.map .ref ++ [.ref q]) ra (.inl (.inr (.inl rfl))) (by rw [upd_ne nqL]; exact hL4)
        have sqU : SqX X C pa U σ H1 ρ1 (wipe σ vs) H4 (wiped ρx vs) := sq.trans ((sq5.trans sqW).less (sub as))
        have hq1 : H1 q = none := by
          cases e : H1 q with
          | none => rfl
          | some o => exact absurd hq (sqU.gr.dom q (by rw [e]; simp))
        refine ⟨rfl, hlt, wiped ρx vs, as ++ [q], accN ++ [ns], rest, ⟨rb.less fun a z => .inl (.inl z), ⟨fun a o e n t => ?_, fun a z => ?_⟩, sqU.sub⟩, rb.less ?_, ?_, ?_, ?_, ?_, ?_, ?_, f3, by rw [hnss]; simp⟩
        · rw [upd_ne (ne_of_none e hL), upd_ne (ne_of_none e hq1)]; exact sqU.gr.keep a o e n t
        · by_cases e : a = L
          · rw [e, upd_same]; exact fun z => nomatch z
          · rw [upd_ne e]
            by_cases e' : a = q
            · rw [e', upd_same]; exact fun z => nomatch z
            · rw [upd_ne e']; exact sqU.gr.dom a z
        · intro a z
          rcases z with z | z | z
          · exact .inl (.inl z)
          · exact .inl (.inr (.inl z))
          · rcases List.mem_append.mp z with z | z
            · exact .inl (.inr (.inr z))
            · exact .inr (by simpa using z)
        · rw [upd_same, map_snoc]
        · refine Paired.snoc (Cells.mono cells fun a ha o e => ?_) ?_
          · have ne1 : a ≠ L := fun z => nLa (by rw [← z]; exact ha)
            rw [upd_ne ne1, upd_ne (nq a (.inr ha))]
            exact sq5.gr.keep a o e (fun z => rD.out a z (.inr (.inr ha))) fun ps z => by
              obtain ⟨xs, hx⟩ := cells.lst ha
              rw [hx] at e; cases e; cases z
          · rw [upd_ne (Ne.symm nqL), upd_same]
        · rw [List.nodup_append]
          refine ⟨nd, by simp, fun a ha b hb e => ?_⟩
          have hb : b = q := by simpa using hb
          subst hb e
          exact nq a (.inr ha) rfl
        · intro z
          rcases List.mem_append.mp z with z | z
          · exact nLa z
          · exact nqL (by simpa using z)
        · intro a ha
          rcases List.mem_append.mp ha with ha | ha
          · exact fr a ha
          · have : a = q := by simpa using ha
            rw [this]; exact hq1
        · rw [List.length_append, List.length_singleton]; omega
end
end Dm
namespace Dm
open PySem PySem.Spec PyProof.Rows L2 LamX
section
variable {P : Program} {w : World} {K : PySem.W.Frag} {mg : Str → Option Value} {base : Heap} {C : Cxt} {k : Nat} {Δ : Nat → Fn} {G : List (Str × D)} {fns : List (Nat × Str)} {exs : List Exn}
/-- the script's rounds: new lists of ints, apart -/
def spRnd (K : PySem.W.Frag) (C : Cxt) (cond : List Int → Int → Prop) (cells : List Int → Int → List (List Int)) : Sp := fun vs H Q _ => ∃ (a : Addr) (ns : List Int) (m : Int), vs = [.ref a, .int m] ∧ Tabs C.T H ∧ SqL K H a (ns.map V.int) ∧ cond ns m ∧
  ∀ (L : Addr) (as : List Addr) (H' : Hp), Gr (fun _ => False) H H' → Tabs C.T H' → H L = none → (∀ a ∈ as, H a = none) → as.Nodup → L ∉ as → H' L = some (.lst (as.map .ref)) → Cells H' as (cells ns m) → Q (.ref L) H'
theorem sl_of {W : AP} {H : Hp} {a : Addr} {xs : List V} (n : ¬ W a) (h : SqL K H a xs) : SL K W H a xs := h.elim (fun z => .inl ⟨n, z⟩) .inr
theorem R.script {a : Addr} {ns : List Int} {H : Hp} {vs : List V} {ss : List Sl} (t : Tabs C.T H) (h : SqL K H a (ns.map V.int)) (pa : Nat → Addr) (hs : ∀ (i : Nat) s, ss[i]? = some s → ∃ v, vs[i]? = some v ∧ ((s = .scr ns ∧ v = .ref a) ∨ ∃ m : Int, s = .val (.int m) ∧ v = .int m)) (hl : vs.length = ss.length) :
    R P w K C pa (fun _ => False) (vs.map some) H ss := by
  have no : ∀ i a, ¬ OwnAt (vs.map some) ss i a := by
    rintro i a ⟨s, h1, h2, _⟩
    obtain ⟨v, _, ⟨e, _⟩ | ⟨m, e, _⟩⟩ := hs i s h1 <;> subst e <;> cases h2
  refine ⟨by rw [List.length_map]; exact hl, fun a z => z.elim, t, fun a _ z => z, fun i j a z => absurd z (no i a), fun i s hi => ?_⟩
  obtain ⟨v, e1, ⟨e, e2⟩ | ⟨m, e, e2⟩⟩ := hs i s hi
  · subst e e2
    exact ⟨a, sigma_get.mpr e1, sl_of (fun z => z.elim id fun ⟨j, z⟩ => no j a z) h⟩
  · subst e e2
    exact ⟨_, sigma_get.mpr e1, .int m⟩
/-- the data of such a def: its names, its iterable, its element's parts -/
structure RndI where
  N : List Str
  own : List (Str × Nat)
  p : Pt
  it : II
  es : IEs
def RndI.ok (fns : List (Nat × Str)) (G : List (Str × D)) (f : RndI) (sc : Scope) : List Stmt → Bool
  | [.Return (some (.ListComp (.List es _) [⟨tg, iter, [], z⟩] scope _)) _] => scopeB f.N (f.N.take 2) sc && (decide ((f.N.take 2).length = 2) && (decide (z = 0) && (blkC f.N sc scope f.own && (chkI fns G f.N false sc (isTupT tg) f.it iter && (chkP f.N (relS scope sc) (fun x => scope.names.lookup x == some .cell) f.p tg &&
      ((chks fns G f.N false (relS scope sc) f.es es).1 && (notSet iter && (decide (f.es.len ≤ 1000) && f.p.ixs.all fun i => (f.own.map (·.2)).contains i))))))))
  | _ => false
/-- the names at the start -/
def pad (L : Nat) (ss : List Sl) : Rho := ss ++ List.replicate (L - ss.length) .un
theorem rnd_ok {f : RndI} {x qual : Str} {params : Arguments} {body : List Stmt} {scope : Scope} {fa : Addr} {fd : FuncData} {kws : List (Str × V)} {cond : List Int → Int → Prop} {cells : List Int → Int → List (List Int)}
    (F : FunD K x qual params body scope [] kws fa fd) (fr : Frees mg) (t : TxG P w K mg base C k Δ G fns exs) (h : f.ok fns G scope body = true)
    (hp : ∀ ns m, cond ns m → ∃ ds ρ1 ρe, denI Δ G f.it (pad f.N.length [.scr ns, .val (.int m)]) = .ok ds ρ1 ∧ ds.length ≤ 1000000 ∧ freeB ρ1 (f.own.map (·.2)) = true ∧ compL f.p (f.own.map (·.2)) none (lstR (dens Δ G f.es)) ds (wiped ρ1 (f.own.map (·.2))) = .ok (lsI (cells ns m)) ρe) :
    FnOk P w K mg base (L2N.CX P w) (k + 1) fa fd (f.N.take 2) (spRnd K C cond cells) := by
  unfold RndI.ok at h
  split at h
  · rename_i es lp tg iter z sc2 pos pos2
    obtain ⟨g1, u2⟩ := ba h
    obtain ⟨g2, u3⟩ := ba u2
    obtain ⟨g3, u4⟩ := ba u3
    obtain ⟨g4, u5⟩ := ba u4
    obtain ⟨g5, u6⟩ := ba u5
    obtain ⟨g6, u7⟩ := ba u6
    obtain ⟨g7, u8⟩ := ba u7
    obtain ⟨g8, u9⟩ := ba u8
    obtain ⟨g9, g10⟩ := ba u9
    have g2 : (f.N.take 2).length = 2 := of_decide_eq_true g2
    cases of_decide_eq_true g3
    have S := scopeB_of g1
    have hN2 : 2 ≤ f.N.length := by rw [List.length_take] at g2; omega
    refine F.ok S (fun vs H Q E h => ?_) (fun cdv A outer s H vs Q E hr h => ?_)
    · obtain ⟨a, ns, m, rfl, _⟩ := h
      exact g2.symm
    · obtain ⟨a, ns, m, rfl, tb, hS, hc, hq⟩ := h
      have xo : XOk C k (cxOf (L2N.CX P w) P w K mg base f.N qual scope fa cdv A outer s H E) (fun c _ H' => E (.ref (C.exa c)) none H') :=
        ⟨rfl, S.nd, hr, fr.bt, fr.ty, fr.isi, fr.rng, fr.enm, fr.rev, fr.st, (L2N.takes_of (X := cxOf (L2N.CX P w) P w K mg base f.N qual scope fa cdv A outer s H E) (E := E) rfl rfl rfl rfl).imp fun cls d σ H' ⟨e, c, e2, z⟩ => by subst e e2; exact z⟩
      have tx : Tx (cxOf (L2N.CX P w) P w K mg base f.N qual scope fa cdv A outer s H E) C k Δ G fns exs := ⟨t.fn, t.gl, t.ex⟩
      have sc : Sc C k false (cxOf (L2N.CX P w) P w K mg base f.N qual scope fa cdv A outer s H E) f.N scope := ⟨rfl, rfl, fun z => nomatch z⟩
      refine ⟨ssSem _ _, pss_sem, ?_⟩
      refine semSs_of (pss_one (ps_ret (pe_lc (wi := tiSem _ tg iter) (g := uG _ sc2 tg) (tt := tYes) (te := uE _ sc2 (.List es lp)) (own := f.own) rfl S.nd pi_sem (blkOk_by g4) (fun s H A cl fp => ⟨fun pins s1 σ H v u Q I r h => h s _ A cl fp pins s1 u I r⟩) (fun s H A cl fp => pts_nil) (fun s H A cl fp => ⟨fun pins s1 σ H Q I h => h s _ A cl fp pins s1 I⟩) (notSet_of g8 _)))) ?_
      have r0 : R P w K C (fun _ => 0) (fun _ => False) (([.ref a, .int m] : List V).map some) H [.scr ns, .val (.int m)] := R.script tb hS _ (fun i sl hi => by
        match i, hi with
        | 0, hi => simp at hi; subst hi; exact ⟨_, rfl, .inl ⟨rfl, rfl⟩⟩
        | 1, hi => simp at hi; subst hi; exact ⟨_, rfl, .inr ⟨m, rfl, rfl⟩⟩
        | i + 2, hi => simp at hi) rfl
      obtain ⟨rp, ow⟩ := R.pad (N := f.N) (vs := [.ref a, .int m]) hN2 r0
      obtain ⟨ds, ρ1, ρe, p1, p2, p3, p4⟩ := hp ns m hc
      refine lcO_read (W := fun c _ H' => E (.ref (C.exa c)) none H') (lpos := lp) xo (blkOk_by g4) (chkI_ok f.it xo tx sc g5) (fun s' H A cl fp => chkP_ok (X := Blk (cxOf (L2N.CX P w) P w K mg base f.N qual scope fa cdv _ outer s _ E) sc2 s' H A cl fp) S.nd rfl rfl rfl rfl g6)
        (fun s' H A cl fp => (chks_ok f.es (xok_blk xo sc2 s' H A cl fp) (tx_blk tx sc2 s' H A cl fp) (sc_blk sc sc2 s' H A cl fp) g7).1) (IEs.len_den f.es) (of_decide_eq_true g9) (fun i hi => by
          have := List.all_eq_true.mp g10 i hi
          simpa using this) rp p1 p2 p3 p4 fun L as H' ρ' sq h1 h2 h3 h4 h5 h6 => ?_
      refine hq L as H' ⟨fun b o e n nt => sq.gr.keep b o e (fun z => ?_) nt, sq.gr.dom⟩ sq.r.tabs h1 h2 h3 h4 h5 h6
      obtain ⟨i, sl, z1, z2, _⟩ := (ow b).mp z
      match i, z1 with
      | 0, z1 => simp at z1; subst z1; cases z2
      | 1, z1 => simp at z1; subst z1; cases z2
      | i + 2, z1 => simp at z1
  · cases h
/-! ### the law -/
def lawRho (L : Nat) (c : Int) : Rho := pad L [.un, .own false [.int c, .int 0]]
def spLaw (K : PySem.W.Frag) (C : Cxt) : Sp := fun vs H Q _ => ∃ (a : Addr) (ns : List Int), vs = [.ref a] ∧ Tabs C.T H ∧ SqL K H a (ns.map V.int) ∧ ns.length ≤ 63 ∧ (∀ z ∈ ns, Builtin.Int.intBits z ≤ 1048576) ∧ ∀ H', Q (.bl true) H'
structure LawI where
  N : List Str
  rnd : Str
  n : Int
  lm : Bool
  body : ISs
def LawI.ok (fns : List (Nat × Str)) (G : List (Str × D)) (exs : List Exn) (f : LawI) (sc : Scope) : List Stmt → Bool
  | [.For (.Name d _) (.Call (.Name r _) [.Name s _, .Constant (.int n) _ _] [] _) b [] _, .Return (some (.Constant (.bool true) _ _)) _] => scopeB f.N (f.N.take 1) sc && (decide (2 ≤ f.N.length) && (decide (r = f.rnd) && (glB sc r && (!(r == ("__debug__" : Str)) && (varB f.N sc 0 s && (decide (n = f.n) && (setB f.N sc (fun _ => true) 1 d && chkSs fns G f.N exs f.lm sc f.body b)))))))
  | _ => false
theorem law_ok {f : LawI} {x qual : Str} {params : Arguments} {body : List Stmt} {scope : Scope} {fa fr_ : Addr} {fd fdR : FuncData} {psR : List Str} {kws : List (Str × V)} {cond : List Int → Int → Prop} {cells : List Int → Int → List (List Int)}
    (F : FunD K x qual params body scope [] kws fa fd) (fr : Frees mg) (t : TxG P w K mg base C k Δ G fns exs) (h : f.ok fns G exs scope body = true)
    (mk : f.lm = true → ∃ p, MkOk K mg base C p fa ((envOfC qual scope 0 0 .none).qual ++ "<lambda>"))
    (FR : FnOk P w K mg base (L2N.CX P w) k fr_ fdR psR (spRnd K C cond cells)) (bR : Binds K fdR psR []) (gR : mg f.rnd = some (.ref fr_)) (kR : PySem.W.keepIn K (.ref fr_) = true)
    (hc : ∀ ns : List Int, ns.length ≤ 63 → (∀ z ∈ ns, Builtin.Int.intBits z ≤ 1048576) → cond ns f.n ∧ ∀ cs ∈ cells ns f.n, ∃ c, cs = [c, 0] ∧ ∃ ρ', denSs Δ G f.body (lawRho f.N.length c) = .nx ρ' ∧ ρ'.length = f.N.length) :
    FnOk P w K mg base (L2N.CX P w) (k + 3 + 1) fa fd (f.N.take 1) (spLaw K C) := by
  unfold LawI.ok at h
  split at h
  · rename_i d dp r rp s sp n np1 np2 cp b fp tp1 tp2 tp3
    obtain ⟨g1, u2⟩ := ba h
    obtain ⟨g2, u3⟩ := ba u2
    obtain ⟨g3, u4⟩ := ba u3
    obtain ⟨g4, u5⟩ := ba u4
    obtain ⟨g5, u6⟩ := ba u5
    obtain ⟨g6, u7⟩ := ba u6
    obtain ⟨g7, u8⟩ := ba u7
    obtain ⟨g8, g9⟩ := ba u8
    have g2 : 2 ≤ f.N.length := of_decide_eq_true g2
    cases of_decide_eq_true g3
    cases of_decide_eq_true g7
    have S := scopeB_of g1
    have hN1 : (f.N.take 1).length = 1 := by rw [List.length_take]; omega
    obtain ⟨oc, od, dV, kV, doc, pm, an, cdv, ct, osl, rfl, lk, hcd, _, _⟩ := F.ex
    refine fn_of lk hcd S (fun vs H Q E h => ?_) (fun A outer st H vs Q E hr3 h => ?_)
    · obtain ⟨a, ns, rfl, _⟩ := h
      exact hN1.symm
    · have hr : Room k _ := hr3.mono (by omega)
      obtain ⟨a, ns, rfl, tb, hS, hlen, hbits, hq⟩ := h
      have xo : XOk C k (cxOf (L2N.CX P w) P w K mg base f.N qual scope fa cdv A outer st H E) (fun c _ H' => E (.ref (C.exa c)) none H') :=
        ⟨rfl, S.nd, hr, fr.bt, fr.ty, fr.isi, fr.rng, fr.enm, fr.rev, fr.st, (L2N.takes_of (X := cxOf (L2N.CX P w) P w K mg base f.N qual scope fa cdv A outer st H E) (E := E) rfl rfl rfl rfl).imp fun cls d σ H' ⟨e, c, e2, z⟩ => by subst e e2; exact z⟩
      have xs : XS C k (cxOf (L2N.CX P w) P w K mg base f.N qual scope fa cdv A outer st H E) (fun c _ H' => E (.ref (C.exa c)) none H') := ⟨xo, fun _ => rfl, passes_of rfl, S.kind⟩
      have tx : Tx (cxOf (L2N.CX P w) P w K mg base f.N qual scope fa cdv A outer st H E) C k Δ G fns exs := ⟨t.fn, t.gl, t.ex⟩
      have sc : Sc C k f.lm (cxOf (L2N.CX P w) P w K mg base f.N qual scope fa cdv A outer st H E) f.N scope := ⟨rfl, rfl, fun z => by
        obtain ⟨pp, m⟩ := mk z
        obtain ⟨cc, hcc⟩ := He.codeIn_ref hcd
        have e := He.codeOf_eq (p := pp) (by rw [m.at_]; exact lk) hcc
        exact ⟨hr3, ⟨_, _, by rw [e]; exact hcc, m.tb, m.mem, m.un⟩, m.td⟩⟩
      have v0 : VarOk (cxOf (L2N.CX P w) P w K mg base f.N qual scope fa cdv A outer st H E) 0 s := varB_of rfl rfl g6
      have v1 := (setB_of (X := cxOf (L2N.CX P w) P w K mg base f.N qual scope fa cdv A outer st H E) rfl rfl rfl g8).1
      obtain ⟨hcond, hcells⟩ := hc ns hlen hbits
      have hb := chkSs_ok f.body xs tx sc g9
      refine ⟨_, pss_cons (ps_for xs.po rfl (pi_list (pe_callS (E := fun _ _ _ _ => False) FR hr (glB_of (X := cxOf (L2N.CX P w) P w K mg base f.N qual scope fa cdv A outer st H E) rfl g4) gR kR bR (fun σ => L2N.passAt (W := fun cls d σ H => False) (xo.tk.imp fun cls d σ H' z => z.elim) σ) (pa_cons (pe_var v0.at_ v0.vis v0.nd v0.nc) (pa_cons pe_int pa_nil)) (bn g5)))
        (pg_name S.nd v1.at_ v1.loc (.inl rfl)) pss_sem) (pss_one (ps_ret pe_bl)), ?_⟩
      have s0 : (L2.start f.N [.ref a])[0]? = some (some (.ref a)) := rfl
      have r0 : R P w K C (fun _ => 0) (fun _ => False) (([.ref a] : List V).map some) H [.scr ns] := R.script tb hS _ (fun i sl hi => by
        match i, hi with
        | 0, hi => simp at hi; subst hi; exact ⟨_, rfl, .inl ⟨rfl, rfl⟩⟩
        | i + 1, hi => simp at hi) rfl
      obtain ⟨rp0, ow⟩ := R.pad (N := f.N) (vs := [.ref a]) (by simp; omega) r0
      refine ⟨_, s0, a, ns, f.n, rfl, tb, hS, hcond, fun L as H1 gr tb1 hL has nd nLa hLv hcl => ?_⟩
      refine ⟨L, rfl, ⟨_, SqL.of hLv⟩, ?_⟩
      let Un : Nat → AP := fun i a => a = L ∨ a ∈ as.drop i
      have asl : as.length = (cells ns f.n).length := Paired.length hcl
      refine ⟨fun i m σ H' => m = as.length - i ∧ i ≤ as.length ∧ ∃ ρ : Rho, R P w K C (fun _ => 0) (Un i) σ H' ρ ∧ ρ.length = f.N.length ∧ H' L = some (.lst (as.map .ref)) ∧ ∀ (j : Nat) b, i ≤ j → as[j]? = some b → ∃ ms, (cells ns f.n)[j]? = some ms ∧ H' b = some (.lst (ms.map V.int)), ⟨as.length, rfl, Nat.zero_le _, List.replicate f.N.length .un, ?_, by simp, hLv, ?_⟩, ?_⟩
      · -- nothing is known of the slots
        refine ⟨by rw [List.length_replicate, rp0.len]; simp; omega, fun b z => ?_, tb1, fun b ⟨j, sl, z1, z2, _⟩ => ?_, fun i j b z => ?_, fun i sl hi => ?_⟩
        · rcases z with z | z
          · rw [z, hLv]; exact fun z => nomatch z
          · obtain ⟨xs, hx⟩ := hcl.lst (by simpa using z)
            rw [hx]; exact fun z => nomatch z
        · rw [List.getElem?_replicate] at z1
          split at z1
          · cases z1; cases z2
          · cases z1
        · obtain ⟨sl, z1, z2, _⟩ := z
          rw [List.getElem?_replicate] at z1
          split at z1
          · cases z1; cases z2
          · cases z1
        · rw [List.getElem?_replicate] at hi
          split at hi
          · cases hi; trivial
          · cases hi
      · intro j b _ hj
        exact cells_get hcl hj
      · rintro i m σ2 H2 ⟨rfl, hi2, ρ, rr, hρ, hL2, hcs⟩
        rcases Nat.lt_or_ge i as.length with hlt | hge
        · right
          have hai : as[i]? = some as[i] := List.getElem?_eq_getElem hlt
          obtain ⟨ms, hms, hH⟩ := hcs i as[i] (Nat.le_refl _) hai
          obtain ⟨c, rfl, ρ', hden, hρ'⟩ := hcells ms (List.mem_of_getElem? hms)
          refine ⟨⟨_, .ref as[i], SqL.of hL2, by rw [List.getElem?_map, hai]; rfl⟩, fun σ' H' => as.length - (i + 1) = as.length - (i + 1) ∧ i + 1 ≤ as.length ∧ ∃ ρ : Rho, R P w K C (fun _ => 0) (Un (i + 1)) σ' H' ρ ∧ ρ.length = f.N.length ∧ H' L = some (.lst (as.map .ref)) ∧ ∀ (j : Nat) b, i + 1 ≤ j → as[j]? = some b → ∃ ms, (cells ns f.n)[j]? = some ms ∧ H' b = some (.lst (ms.map V.int)), fun σ' H' z => ⟨_, by omega, z⟩, fun v H3 hy => ?_⟩
          obtain ⟨e3, hy⟩ := hy
          subst e3
          have := hy _ (SqL.of hL2)
          rw [List.getElem?_map, hai] at this
          cases this
          show gName 1 (V.ref as[i]) σ2 H3 _
          have pin : Un i as[i] := .inr (by rw [List.drop_eq_getElem_cons hlt]; exact List.mem_cons_self)
          have rf := (R.forget (ρ' := List.replicate f.N.length .un) rr (by simp [hρ]) fun j sl hj => .inl (by
            rw [List.getElem?_replicate] at hj
            split at hj
            · cases hj; rfl
            · cases hj)).r
          obtain ⟨r1, _⟩ := set_new (i := 1) (s := .own false [.int c, .int 0]) rf pin fun W _ => ⟨as[i], [V.int c, V.int 0], rfl, (fun z => nomatch z), hH, .cons (.int _) (.cons (.int _) .nil)⟩
          have hUn : ∀ b, Un (i + 1) b → Un i b ∧ b ≠ as[i] := by
            rintro b (z | z)
            · exact ⟨.inl z, fun e => nLa (by rw [← z, e]; exact List.getElem_mem hlt)⟩
            · refine ⟨.inr (by rw [List.drop_eq_getElem_cons hlt]; exact List.mem_cons_of_mem _ z), fun e => ?_⟩
              have nd2 : (as.drop i).Nodup := nd.sublist (List.drop_sublist _ _)
              rw [List.drop_eq_getElem_cons hlt] at nd2
              exact (List.nodup_cons.mp nd2).1 (by rw [← e]; exact z)
          have eρ : (List.replicate f.N.length Sl.un).set 1 (.own false [.int c, .int 0]) = lawRho f.N.length c := by
            unfold lawRho pad
            obtain ⟨q, hq⟩ : ∃ q, f.N.length = q + 2 := ⟨f.N.length - 2, by omega⟩
            rw [hq]
            simp [List.replicate_succ]
          rw [eρ] at r1
          have r2 := r1.less hUn
          show ssSem _ b _ _ H3
          refine hb (fun _ => 0) (Un (i + 1)) _ H3 _ _ r2 ?_
          rw [hden]
          intro σ4 H4 q4
          have keep : ∀ b o, Un (i + 1) b → H3 b = some (.lst o) → H4 b = some (.lst o) := fun b o ub e => q4.gr.keep b _ e (fun z => r2.out b z ub) fun ps z => nomatch z
          refine ⟨rfl, hlt, ρ', q4.r, hρ', keep L _ (.inl rfl) hL2, fun j b' hj hb' => ?_⟩
          obtain ⟨ms', h1, h2⟩ := hcs j b' (by omega) hb'
          exact ⟨ms', h1, keep b' _ (.inr (List.mem_of_getElem? (i := j - (i + 1)) (by rw [List.getElem?_drop]; rw [show i + 1 + (j - (i + 1)) = j from by omega]; exact hb'))) h2⟩
        · left
          exact ⟨⟨_, SqL.of hL2, by rw [List.length_map]; exact hge⟩, hq H2⟩
  · cases h
where
  cells_get {H : Hp} {as : List Addr} {nss : List (List Int)} (c : Cells H as nss) {j : Nat} {b : Addr} (hj : as[j]? = some b) : ∃ ms, nss[j]? = some ms ∧ H b = some (.lst (ms.map V.int)) := by
    induction c generalizing j with
    | nil => simp at hj
    | cons r t ih =>
      cases j with
      | zero => simp at hj; subst hj; exact ⟨_, rfl, r⟩
      | succ j => simpa using ih (j := j) (by simpa using hj)
end
end Dm
namespace Dm
open PySem PySem.Spec PyProof.Rows L2 LamX
/-! ### all defs of a text -/
structure DefX where
  id : Nat
  f : FnI
  st : Stmt
/-- the name of a lambda of its -/
def DefX.q (d : DefX) : Str := (envOfC d.f.name (defScope d.st) 0 0 .none).qual ++ "<lambda>"
def DefX.toD (d : DefX) : He.DefD := ⟨(d.f.name, none), d.f.name, d.f.name, defArgs d.st, defBody d.st, defScope d.st, [], []⟩
def lookD (tbl : List DefX) (i : Nat) : Option DefX := tbl.find? fun d => d.id == i
/-- each def's meaning, calls n deep -/
def dlt (tbl : List DefX) (G : List (Str × D)) : Nat → Nat → Fn
  | 0, i => match lookD tbl i with
    | some d => ⟨d.f.name, d.f.ps.length, fun _ => .bad⟩
    | none => noFn
  | n + 1, i => match lookD tbl i with
    | some d => d.f.fn (dlt tbl G n) G
    | none => noFn
def fnsOf (tbl : List DefX) : List (Nat × Str) := tbl.map fun d => (d.id, d.f.name)
theorem fns_look : ∀ {tbl : List DefX} {i : Nat} {q : Str}, (fnsOf tbl).lookup i = some q → ∃ d, d ∈ tbl ∧ lookD tbl i = some d ∧ d.f.name = q
  | [], i, q, h => by simp [fnsOf] at h
  | d :: tbl, i, q, h => by
    unfold fnsOf at h
    rw [List.map_cons, List.lookup_cons] at h
    unfold lookD
    rw [List.find?_cons]
    by_cases e : i = d.id
    · subst e
      simp only [beq_self_eq_true] at h ⊢
      exact ⟨d, List.mem_cons_self, rfl, Option.some.inj h⟩
    · have e1 : (i == d.id) = false := by simpa using e
      have e2 : (d.id == i) = false := by simpa using (Ne.symm e)
      simp only [e1] at h
      simp only [e2]
      obtain ⟨d', h1, h2, h3⟩ := fns_look (tbl := tbl) h
      exact ⟨d', List.mem_cons_of_mem _ h1, h2, h3⟩
section
variable {P : Program} {w : World} {K : PySem.W.Frag} {mg : Str → Option Value} {base : Heap} {C : Cxt} {G : List (Str × D)} {exs : List Exn}
abbrev FunX (K : PySem.W.Frag) (d : DefX) (fd : FuncData) : Prop := FunD K d.f.name d.f.name (defArgs d.st) (defBody d.st) (defScope d.st) [] [] (He.ga K d.f.name) fd
/-- its parameters are bound by place -/
def BindX (nm : Str) (ps : List Str) (st : Stmt) : Prop := ∀ (kV doc pm : Value) (an : Option Addr) (cdv ct : Value) (us : List Value), us.length = ps.length → bindArgs (PySem.W.fnOf nm nm (defArgs st) (defBody st) (defScope st) .none kV doc pm an cdv ct) ⟨us, []⟩ = pure (ps.zip us)
theorem tx_all {tbl : List DefX} (fr : Frees mg) (hF : ∀ d ∈ tbl, ∃ fd, FunX K d fd) (hG : ∀ d ∈ tbl, mg d.f.name = some (.ref (He.ga K d.f.name))) (hB : ∀ d ∈ tbl, BindX d.f.name d.f.ps d.st) (hC : ∀ d ∈ tbl, d.f.ok (fnsOf tbl) G exs (defScope d.st) (defBody d.st) = true)
    (hN : ∀ d ∈ tbl, (d.f.name == ("__debug__" : Str)) = false) (hgl : ∀ (g : Nat) q, G[g]? = some q → ∃ u v, mg q.1 = some u ∧ RelV v u ∧ ∀ W H, Rp K W H v q.2) (hex : ∀ c, c ∈ exs → ExAv P K mg C c) (hM : ∀ d ∈ tbl, d.f.lm = true → ∃ p, MkOk K mg base C p (He.ga K d.f.name) d.q) : ∀ n, TxG P w K mg base C (4 * n) (dlt tbl G n) G (fnsOf tbl) exs
  | 0 => ⟨fun i q h => by
      obtain ⟨d, h1, h2, h3⟩ := fns_look h
      obtain ⟨fd, F⟩ := hF d h1
      have e : dlt tbl G 0 i = ⟨d.f.name, d.f.ps.length, fun _ => .bad⟩ := by unfold dlt; rw [h2]
      rw [e]
      refine ⟨h3, ⟨⟨_, fd, d.f.ps, hG d h1, F.kp, F.bindsN (hB d h1), fun vs H Q E h => h.1, ?_⟩, hN d h1⟩⟩
      intro A outer s H args us vs Q E _ _ _ _ h
      obtain ⟨_, _, _, _, _, _, z⟩ := h
      exact z.elim, hgl, hex⟩
  | n + 1 => ⟨fun i q h => by
      obtain ⟨d, h1, h2, h3⟩ := fns_look h
      obtain ⟨fd, F⟩ := hF d h1
      have e : dlt tbl G (n + 1) i = d.f.fn (dlt tbl G n) G := by conv => lhs; unfold dlt; rw [h2]
      rw [e]
      exact ⟨h3, ⟨⟨_, fd, d.f.ps, hG d h1, F.kp, F.bindsN (hB d h1), def_ok F (hM d h1) fr (tx_all fr hF hG hB hC hN hgl hex hM n) (hC d h1)⟩, hN d h1⟩⟩, hgl, hex⟩
/-! ### the head's facts -/
def freeNames : List Str := ["len", "tuple", "list", "all", "any", "max", "min", "sum", "sorted", "int", "abs", "bool", "str", "isinstance", "range", "enumerate", "reversed", "set"]
theorem frees_of {mg : Str → Option Value} (h : ∀ x ∈ freeNames, mg x = none) : Frees mg := by
  refine ⟨fun b => h _ ?_, fun t => h _ ?_, h _ ?_, h _ ?_, h _ ?_, h _ ?_, h _ ?_⟩
  · cases b <;> decide
  · cases t <;> decide
  all_goals decide
def cx0 (K : PySem.W.Frag) : Cxt := ⟨[], fun c => He.ga K c.cname, 0⟩
theorem exav_of {h : Heap} (X : K.In h) (Gm : h.Ns mainGlobals mg) {c : Exn} (f1 : (He.Fa.exc c.cname).ok K = true) (f2 : (He.Fa.glo c.cname).ok K = true) {T : List (Addr × Str)} {cl : Addr} : ExAv P K mg ⟨T, fun c => He.ga K c.cname, cl⟩ c := by
  obtain ⟨h1, h2, h3, h4⟩ := He.exc_ok f1
  exact ⟨He.veBase, "ValueError", "ValueError.__new__", _, PySem.F.excBase_ValueError, h1, He.glo_ok X Gm f2, h2, h3, h4⟩
end
end Dm
namespace Dm
open PySem PySem.Spec PyProof.Rows L2 LamX HotX L2H
def gA : List (Str × D) := [("ANSWERS", .tuple [.str "less", .str "greater", .str "equal"])]
structure LawX where
  tbl : List DefX
  exs : List Exn
  ans : Bool
  rnd : RndI
  sRnd : Stmt
  law : LawI
  sLaw : Stmt
  sTold : Stmt
  sTerm : Stmt
def LawX.q (l : LawX) : Str := (envOfC "law" (defScope l.sLaw) 0 0 .none).qual ++ "<lambda>"
/-- the defs that make lambdas, the lambdas' names -/
def LawX.mk' (l : LawX) : List ((Str × Option Str) × Str) := ((l.tbl.filter fun d => d.f.lm).map fun d => (((d.f.name, none), d.q) : (Str × Option Str) × Str)) ++ (if l.law.lm then [(((("law" : Str), none), l.q) : (Str × Option Str) × Str)] else [])
def LawX.lm (l : LawX) : Bool := l.law.lm || l.tbl.any fun d => d.f.lm
def LawX.gl (l : LawX) : List (Str × D) := if l.ans then gA else []
def dfn (nm : Str) (st : Stmt) : He.DefD := ⟨(nm, none), nm, nm, defArgs st, defBody st, defScope st, [], []⟩
def LawX.fn (l : LawX) : List He.DefD := l.tbl.map DefX.toD ++ ([dfn "_law_rounds" l.sRnd, dfn "law" l.sLaw] ++ (if l.lm then [dfn "_law_told" l.sTold, dfn "_law_term" l.sTerm] else []))
def LawX.fa (l : LawX) : List He.Fa := (l.tbl.map fun d => He.Fa.glo d.f.name) ++ ([.glo "_law_rounds", .glo "law"] ++ (freeNames.map He.Fa.free ++ (l.exs.map (fun c => He.Fa.exc c.cname) ++ (l.exs.map (fun c => He.Fa.glo c.cname) ++ ((if l.ans then [He.Fa.glo "ANSWERS"] else []) ++ (if l.lm then [He.Fa.glo "_law_told", .glo "_law_term", .glo "SearchError", .free "ValueError"] ++ exnAll.map (fun c => He.Fa.exm c.cname "SearchError" true) else []))))))
def ansB (K : PySem.W.Frag) : Bool := He.tupB K "ANSWERS" [.str "less", .str "greater", .str "equal"]
def excB (K : PySem.W.Frag) (D : Addr) : Bool := decide (PySem.W.findIn K (.ref D) "__getattribute__" = some (some (.builtin "BaseException.__getattribute__"))) && (decide (PySem.W.findIn K (.ref D) "__getattr__" = some none) && (decide (PySem.W.subIn K (.ref D) (.type "BaseException") = some true) &&
  (PySem.W.hasDictIn K D && (decide (PySem.W.findIn K (.ref D) "__class__" = some (some (.builtin "object.__class__"))) && (decide (PySem.W.specialIn K (.builtin "object.__class__") "__get__" = some (some (.builtin "getset_descriptor.__get__"))) &&
  (decide (PySem.W.takesIn K (.builtin "object.__class__") = some true) && decide (PySem.W.mroIn K D (.type "object") = some true)))))))
theorem excB_ok {K : PySem.W.Frag} {D : Addr} (h : excB K D = true) : ExcC K D := by
  obtain ⟨h1, h⟩ := ba h
  obtain ⟨h2, h⟩ := ba h
  obtain ⟨h3, h⟩ := ba h
  obtain ⟨h4, h⟩ := ba h
  obtain ⟨h5, h⟩ := ba h
  obtain ⟨h6, h⟩ := ba h
  obtain ⟨h7, h8⟩ := ba h
  exact ⟨of_decide_eq_true h1, of_decide_eq_true h2, of_decide_eq_true h3, h4, of_decide_eq_true h5, of_decide_eq_true h6, of_decide_eq_true h7, of_decide_eq_true h8⟩
def kitB (K : PySem.W.Frag) : Bool := exnAll.all fun c => excB K (He.ga K c.cname) && (decide (PySem.W.kitOne K (.ref (He.ga K c.cname)) (.type "ValueError") = some true) && exnAll.all fun k => decide (PySem.W.kitOne K (.ref (He.ga K c.cname)) (.ref (He.ga K k.cname)) = some (decide (c = k))))
theorem mem_exn (c : Exn) : c ∈ exnAll := by cases c <;> decide
theorem kitB_ok {K : PySem.W.Frag} {mg : Str → Option Value} (h : kitB K = true) (c : Exn) : KitOk K mg (fun c => He.ga K c.cname) c := by
  obtain ⟨h1, h⟩ := ba (List.all_eq_true.mp h c (mem_exn c))
  obtain ⟨h2, h3⟩ := ba h
  exact ⟨excB_ok h1, fun k => of_decide_eq_true (List.all_eq_true.mp h3 k (mem_exn k)), of_decide_eq_true h2⟩
def LawX.tf (l : LawX) : List He.Defn := l.mk'.map (·.1)
def tabK (K : PySem.W.Frag) (p : Str × Option Str) : Addr := He.tabOf K (He.codeOf K p)
def LawX.ex (l : LawX) (K : PySem.W.Frag) : Bool := (!l.ans || ansB K) && ((!l.lm || kitB K) && decide (l.mk'.map fun m => tabK K m.1).Nodup)
def LawX.cx (l : LawX) (K : PySem.W.Frag) : Cxt := ⟨l.mk'.map fun m => (tabK K m.1, m.2), fun c => He.ga K c.cname, 0⟩
theorem nodup_map_inj {α β : Type} {f : α → β} : ∀ {l : List α}, (l.map f).Nodup → ∀ {a b : α}, a ∈ l → b ∈ l → f a = f b → a = b
  | [], _, a, b, h, _, _ => by cases h
  | x :: l, n, a, b, ha, hb, e => by
    rw [List.map_cons] at n
    obtain ⟨n1, n2⟩ := List.nodup_cons.mp n
    rcases List.mem_cons.mp ha with ha | ha <;> rcases List.mem_cons.mp hb with hb | hb
    · rw [ha, hb]
    · rw [ha] at e; exact absurd (List.mem_map.mpr ⟨b, hb, e.symm⟩) n1
    · rw [hb] at e; exact absurd (List.mem_map.mpr ⟨a, ha, e⟩) n1
    · exact nodup_map_inj n2 ha hb e
def LawX.fns (l : LawX) : List (Nat × Str) := fnsOf l.tbl
/-- all that is looked at in the text -/
def LawX.okB (l : LawX) : Bool := (l.tbl.all fun d => d.f.ok l.fns l.gl l.exs (defScope d.st) (defBody d.st) && !(d.f.name == ("__debug__" : Str))) && (l.rnd.ok l.fns l.gl (defScope l.sRnd) (defBody l.sRnd) && (l.law.ok l.fns l.gl l.exs (defScope l.sLaw) (defBody l.sLaw) && (decide (l.law.rnd = "_law_rounds") && (!l.lm || (exnAll.all (fun c => l.exs.contains c) && (scopeB ["_law_deed", "_law_e"] ["_law_deed"] (defScope l.sTold) && (tellB (defScope l.sTold) (defBody l.sTold) && (scopeB ["_law_e", "_law_flags", "_law_kinds"] ["_law_e"] (defScope l.sTerm) && termB (defScope l.sTerm) (defBody l.sTerm)))))))))
def LawX.dl (l : LawX) (n : Nat) : Nat → Fn := dlt l.tbl l.gl n
structure LawX.Binds (l : LawX) : Prop where
  d : ∀ d ∈ l.tbl, BindX d.f.name d.f.ps d.st
  r : BindX "_law_rounds" (l.rnd.N.take 2) l.sRnd
  lw : BindX "law" (l.law.N.take 1) l.sLaw
  t : l.lm = true → BindX "_law_told" ["_law_deed"] l.sTold ∧ BindX "_law_term" ["_law_e"] l.sTerm
/-- the cells of the rounds, by the law's count -/
def cellI (ns : List Int) (k : Nat) : Int := if ns = [] then (k : Int) * 7919 else (ns[k % ns.length]?.getD 0) + (k / ns.length : Nat) * 104729
def cellsI (ns : List Int) (m : Int) : List (List Int) := (List.range (max 1 (min m.toNat ns.length))).map fun k => [cellI ns k, 0]
def condI (ns : List Int) (m : Int) : Prop := ns.length ≤ 63 ∧ 1 ≤ m ∧ m ≤ 10
/-- what plain Lean has to show of a law -/
structure LawX.Plain (l : LawX) (n0 : Nat) : Prop where
  rnd : ∀ ns m, condI ns m → ∃ ds ρ1 ρe, denI (l.dl n0) l.gl l.rnd.it (pad l.rnd.N.length [.scr ns, .val (.int m)]) = .ok ds ρ1 ∧ ds.length ≤ 1000000 ∧ freeB ρ1 (l.rnd.own.map (·.2)) = true ∧
    compL l.rnd.p (l.rnd.own.map (·.2)) none (lstR (dens (l.dl n0) l.gl l.rnd.es)) ds (wiped ρ1 (l.rnd.own.map (·.2))) = .ok (lsI (cellsI ns m)) ρe
  cnt : 1 ≤ l.law.n ∧ l.law.n ≤ 10
  law : ∀ c : Int, ∃ ρ', denSs (l.dl n0) l.gl l.law.body (lawRho l.law.N.length c) = .nx ρ' ∧ ρ'.length = l.law.N.length
theorem kt_of {K : PySem.W.Frag} {a : Addr} {xs : List V} (h : ∀ H : Hp, SqT K H a xs) : KT K a xs := by
  rcases h (fun _ => none) with (z | ⟨o, z⟩) | z
  · cases z
  · cases z
  · exact z
def lawD : Str × Option Str := ("law", none)
theorem law_at {l : LawX} {n0 : Nat} {L : PySem.W.OpenLaw} {w : World} {K : PySem.W.Frag} {h : Heap} {mg : Str → Option Value} {fa : Addr} {x : Str} (KX : K.In h) (Gm : h.Ns mainGlobals mg) (c : He.SaysX l.fa l.fn [] l.tf l.ex w h K)
    (hfa : mg ("law" : Str) = some (.ref fa)) (hx : l.law.N.take 1 = [x]) (ok : l.okB = true) (hb : l.Binds) (hp : l.Plain n0) : LamX.LawAtS L w K (L2N.CX L.prog w) (4 * n0 + 5) 63 x mg fa h := by
  have cd : He.SaysD l.fa l.fn K := c.t.d
  have f_glo : ∀ y, He.Fa.glo y ∈ l.fa → mg y = some (.ref (He.ga K y)) := fun y hy => He.glo_ok KX Gm (cd.facts hy)
  have in1 : ∀ d ∈ l.tbl, He.Fa.glo d.f.name ∈ l.fa := fun d hd => List.mem_append_left _ (List.mem_map.mpr ⟨d, hd, rfl⟩)
  have inR : He.Fa.glo "_law_rounds" ∈ l.fa := List.mem_append_right _ (List.mem_append_left _ (by simp))
  have inL : He.Fa.glo "law" ∈ l.fa := List.mem_append_right _ (List.mem_append_left _ (by simp))
  have fr : Frees mg := frees_of fun y hy => He.free_ok KX Gm (cd.facts (List.mem_append_right _ (List.mem_append_right _ (List.mem_append_left _ (List.mem_map.mpr ⟨y, hy, rfl⟩)))))
  have gex : ∀ cc ∈ l.exs, He.Fa.glo cc.cname ∈ l.fa := fun cc hc => List.mem_append_right _ (List.mem_append_right _ (List.mem_append_right _ (List.mem_append_right _ (List.mem_append_left _ (List.mem_map.mpr ⟨cc, hc, rfl⟩)))))
  have exa : ∀ cc ∈ l.exs, ExAv L.prog K mg (l.cx K) cc := fun cc hc => exav_of KX Gm
    (cd.facts (List.mem_append_right _ (List.mem_append_right _ (List.mem_append_right _ (List.mem_append_left _ (List.mem_map.mpr ⟨cc, hc, rfl⟩))))))
    (cd.facts (gex cc hc))
  obtain ⟨mA, mK⟩ := ba (show ((!l.ans || ansB K) && ((!l.lm || kitB K) && decide (l.mk'.map fun m => tabK K m.1).Nodup)) = true from c.more)
  obtain ⟨mK, mN⟩ := ba mK
  have mN : (l.mk'.map fun m => tabK K m.1).Nodup := of_decide_eq_true mN
  have gl : ∀ (g : Nat) q, l.gl[g]? = some q → ∃ u v, mg q.1 = some u ∧ RelV v u ∧ ∀ W H, Rp K W H v q.2 := by
    intro g q hq
    unfold LawX.gl at hq
    by_cases ha : l.ans = true
    · rw [if_pos ha] at hq
      have hin : He.Fa.glo "ANSWERS" ∈ l.fa := List.mem_append_right _ (List.mem_append_right _ (List.mem_append_right _ (List.mem_append_right _ (List.mem_append_right _ (List.mem_append_left _ (by rw [if_pos ha]; simp))))))
      have hb : ansB K = true := by
        rw [ha] at mA
        simpa using mA
      cases g with
      | succ g => simp [gA] at hq
      | zero =>
        simp only [gA, List.getElem?_cons_zero, Option.some.injEq] at hq
        subst hq
        refine ⟨_, .ref (He.ga K "ANSWERS"), f_glo _ hin, rfl, fun W H => .tup (.inr (kt_of fun H => He.tupB_ok hb H)) ?_⟩
        exact .cons (.str _ ⟨by decide +kernel, by rw [sizeLine_eq]; decide +kernel⟩) (.cons (.str _ ⟨by decide +kernel, by rw [sizeLine_eq]; decide +kernel⟩) (.cons (.str _ ⟨by decide +kernel, by rw [sizeLine_eq]; decide +kernel⟩) .nil))
    · rw [if_neg ha] at hq
      simp at hq
  obtain ⟨o1, u2⟩ := ba ok
  obtain ⟨o2, u3⟩ := ba u2
  obtain ⟨o3, u4⟩ := ba u3
  obtain ⟨o4, o5⟩ := ba u4
  have oD : ∀ d ∈ l.tbl, d.f.ok l.fns l.gl l.exs (defScope d.st) (defBody d.st) = true ∧ (d.f.name == ("__debug__" : Str)) = false := fun d hd => by
    obtain ⟨h1, h2⟩ := ba (List.all_eq_true.mp o1 d hd)
    exact ⟨h1, bn h2⟩
  have hF : ∀ d ∈ l.tbl, ∃ fd, FunX K d fd := fun d hd => cd.defs (d := d.toD) (List.mem_append_left _ (List.mem_map.mpr ⟨d, hd, rfl⟩))
  obtain ⟨fdR, FR⟩ := cd.defs (d := dfn "_law_rounds" l.sRnd) (List.mem_append_right _ (List.mem_append_left _ (by simp)))
  obtain ⟨fdL, FL⟩ := cd.defs (d := dfn "law" l.sLaw) (List.mem_append_right _ (List.mem_append_left _ (by simp)))
  have eL : fa = He.ga K "law" := by
    have := hfa.symm.trans (f_glo "law" inL)
    cases this; rfl
  have td : l.lm = true → ToldD K mg (l.cx K).exa := fun z => by
    rw [z] at mK o5
    have mK : kitB K = true := by simpa using mK
    obtain ⟨q1, q2⟩ := ba (show (exnAll.all (fun c => l.exs.contains c) && (scopeB ["_law_deed", "_law_e"] ["_law_deed"] (defScope l.sTold) && (tellB (defScope l.sTold) (defBody l.sTold) && (scopeB ["_law_e", "_law_flags", "_law_kinds"] ["_law_e"] (defScope l.sTerm) && termB (defScope l.sTerm) (defBody l.sTerm))))) = true by simpa using o5)
    obtain ⟨q2, q3⟩ := ba q2
    obtain ⟨q3, q4⟩ := ba q3
    obtain ⟨q4, q5⟩ := ba q4
    have inn : ∀ f, f ∈ [He.Fa.glo "_law_told", .glo "_law_term", .glo "SearchError", .free "ValueError"] ++ exnAll.map (fun c => He.Fa.exm c.cname "SearchError" true) → f ∈ l.fa := fun f hf =>
      List.mem_append_right _ (List.mem_append_right _ (List.mem_append_right _ (List.mem_append_right _ (List.mem_append_right _ (List.mem_append_right _ (by rw [if_pos z]; exact hf))))))
    have ind : ∀ d, d ∈ [dfn "_law_told" l.sTold, dfn "_law_term" l.sTerm] → d ∈ l.fn := fun d hd => List.mem_append_right _ (List.mem_append_right _ (by rw [if_pos z]; exact hd))
    obtain ⟨fT, FT⟩ := cd.defs (d := dfn "_law_told" l.sTold) (ind _ (by simp))
    obtain ⟨fM, FM⟩ := cd.defs (d := dfn "_law_term" l.sTerm) (ind _ (by simp))
    obtain ⟨bT, bM⟩ := hb.t z
    refine ⟨⟨_, _, _, _, _, fT, FT, scopeB_of q2, q3, f_glo _ (inn _ (by simp)), FT.bindsN bT⟩, ⟨⟨_, _, _, _, _, fM, FM, scopeB_of q4, q5, f_glo _ (inn _ (by simp)), FM.bindsN bM⟩, fun cc => kitB_ok mK cc, fun cc => f_glo _ (gex cc ?_), ⟨_, f_glo "SearchError" (inn _ (by simp)), fun cc => ?_⟩, fr.isi, fr.bt .sum, fr.bt .int, He.free_ok KX Gm (cd.facts (inn _ (by simp)))⟩⟩
    · have := List.all_eq_true.mp q1 cc (mem_exn cc)
      simpa using this
    · exact He.exm_ok (cd.facts (inn (.exm cc.cname "SearchError" true) (List.mem_append_right _ (List.mem_map.mpr ⟨cc, mem_exn cc, rfl⟩))))
  have mkOk : ∀ (base : Heap) m, m ∈ l.mk' → l.lm = true → (∀ p ∈ l.tf.map (He.cT K), TabB base mg p.1 p.2) → MkOk K mg base (l.cx K) m.1 (He.fAd K m.1) m.2 := fun base m hm z hTB =>
    ⟨rfl, hTB (He.cT K m.1) (List.mem_map.mpr ⟨m.1, List.mem_map.mpr ⟨m, hm, rfl⟩, rfl⟩), List.mem_map.mpr ⟨m, hm, rfl⟩, fun y hy e => by
      obtain ⟨m', hm', rfl⟩ := List.mem_map.mp hy
      rw [nodup_map_inj mN hm' hm e], td z⟩
  have lmd : ∀ d ∈ l.tbl, d.f.lm = true → l.lm = true ∧ ((d.f.name, none), d.q) ∈ l.mk' := fun d hd z => by
    refine ⟨?_, List.mem_append_left _ (List.mem_map.mpr ⟨d, List.mem_filter.mpr ⟨hd, z⟩, rfl⟩)⟩
    unfold LawX.lm
    rw [List.any_eq_true.mpr ⟨d, hd, z⟩, Bool.or_true]
  have tx : ∀ base, (∀ p ∈ l.tf.map (He.cT K), TabB base mg p.1 p.2) → TxG L.prog w K mg base (l.cx K) (4 * n0) (l.dl n0) l.gl l.fns l.exs := fun base hTB => tx_all fr hF (fun d hd => f_glo _ (in1 d hd)) hb.d (fun d hd => (oD d hd).1) (fun d hd => (oD d hd).2) gl exa (fun d hd z => ⟨_, mkOk base _ (lmd d hd z).2 (lmd d hd z).1 hTB⟩) n0
  have cs0 : ∀ p ∈ l.tf.map (He.cT K), ∃ d ∈ l.tf, p = He.cT K d := fun p hp => by
    obtain ⟨d, hd, e⟩ := List.mem_map.mp hp
    exact ⟨d, hd, e.symm⟩
  refine ⟨fdL, l.tf.map (He.cT K), spLaw K (l.cx K), fun p hp => ?_, fun p hp => ?_, fun p hp => ?_, ?_, ?_, ?_⟩
  · obtain ⟨d, hd, rfl⟩ := cs0 p hp
    exact c.empty d hd
  · obtain ⟨d, hd, rfl⟩ := cs0 p hp
    exact c.out d hd
  · obtain ⟨d, hd, rfl⟩ := cs0 p hp
    exact PySem.W.codeHd_of_K KX (c.hd d hd)
  · intro s u
    have := FL.bindsA (ps := l.law.N.take 1) hb.lw s [u] (by rw [hx]; rfl)
    rw [hx] at this
    exact this
  · intro H a ns h1 h2 hT h3
    refine ⟨a, ns, rfl, (fun p hp => ?_), h3, h1, h2, fun _ => rfl⟩
    obtain ⟨m, hm, rfl⟩ := List.mem_map.mp hp
    exact .nil (hT (He.cT K m.1) (List.mem_map.mpr ⟨m.1, List.mem_map.mpr ⟨m, hm, rfl⟩, rfl⟩))
  · intro base _ _ hTB
    rw [eL, ← hx]
    have r1 := rnd_ok (cond := condI) (cells := cellsI) FR fr (tx base hTB) o2 hp.rnd
    have tx1 : TxG L.prog w K mg base (l.cx K) (4 * n0 + 1) (l.dl n0) l.gl l.fns l.exs := ⟨fun f q hq => ⟨((tx base hTB).fn f q hq).1, ((tx base hTB).fn f q hq).2.mono (Nat.le_succ _)⟩, (tx base hTB).gl, (tx base hTB).ex⟩
    refine law_ok FL fr tx1 o3 (fun z => ⟨lawD, mkOk base (lawD, l.q) (List.mem_append_right _ (by rw [if_pos z]; exact List.mem_singleton.mpr rfl)) (by unfold LawX.lm; rw [z, Bool.true_or]) hTB⟩) r1 (FR.bindsN hb.r) (by rw [of_decide_eq_true o4]; exact f_glo _ inR) FR.kp fun ns hlen hbits => ⟨⟨hlen, hp.cnt⟩, fun cs hcs => ?_⟩
    unfold cellsI at hcs
    obtain ⟨k, _, rfl⟩ := List.mem_map.mp hcs
    exact ⟨_, rfl, hp.law _⟩
end Dm
namespace Dm
open PySem PySem.Spec PyProof.Rows L2 LamX
def B_is_whole : ISs := (.cons (.ret (.and (.cons (.isi .int (.var 0)) (.cons (.not (.isi .bool (.var 0))) (.cons (.cmp2 .le .le (.var 1) (.var 0) (.var 2)) .nil))))) .nil)
def F_is_whole : FnI := ⟨"is_whole", ["value", "low", "high"], ["value", "low", "high"], false, B_is_whole⟩
abbrev i_is_whole : Nat := 0
def B_is_rising : ISs := (.cons (.ret (.blt .all (.cons (.comp (.nm 1) [("at", 1)] (.rng1 (.bin .sub (.lenv 0) (.int 1))) .yes (.cmp .lt (.ixv 0 (.var 1)) (.ixv 0 (.bin .add (.var 1) (.int 1))))) .nil))) .nil)
def F_is_rising : FnI := ⟨"is_rising", ["numbers", "at"], ["numbers"], false, B_is_rising⟩
abbrev i_is_rising : Nat := 1
def B_are_entries : ISs := (.cons (.ifs (.or (.cons (.not (.isi .tuple (.var 0))) (.cons (.cmp .ne (.lenv 0) (.var 1)) (.cons (.not (.blt .all (.cons (.comp (.nm 2) [("one", 2)] (.dat (.var 0)) .yes (.call 0 false (.val (.var 2) (.val (.neg (.int 999)) (.val (.int 999) .nil))))) .nil))) .nil)))) (.cons (.ret (.bl false)) .nil) .nil) (.cons (.ret (.call 1 false (.val (.var 0) .nil))) .nil))
def F_are_entries : FnI := ⟨"are_entries", ["value", "many", "one"], ["value", "many"], false, B_are_entries⟩
abbrev i_are_entries : Nat := 2
def B_is_table : ISs := (.cons (.ifs (.or (.cons (.not (.isi .tuple (.var 0))) (.cons (.not (.cmp2 .le .le (.int 1) (.lenv 0) (.int 4))) (.cons (.not (.isi .tuple (.ixv 0 (.int 0)))) .nil)))) (.cons (.ret (.bl false)) .nil) .nil) (.cons (.set 1 (.blt .len (.cons (.ixv 0 (.int 0)) .nil))) (.cons (.ifs (.or (.cons (.not (.cmp2 .le .le (.int 1) (.var 1) (.int 4))) (.cons (.not (.blt .all (.cons (.comp (.nm 2) [("row", 2)] (.dat (.var 0)) .yes (.call 2 false (.val (.var 2) (.val (.var 1) .nil)))) .nil))) .nil))) (.cons (.ret (.bl false)) .nil) .nil) (.cons (.ret (.blt .all (.cons (.comp (.nm 3) [("at", 3)] (.rng1 (.var 1)) .yes (.call 1 false (.val (.comp (.nm 2) [("row", 2)] (.dat (.var 0)) .yes (.ixv 2 (.var 3))) .nil))) .nil))) .nil))))
def F_is_table : FnI := ⟨"is_table", ["value", "many", "row", "at"], ["value"], false, B_is_table⟩
abbrev i_is_table : Nat := 3
def B_need_table : ISs := (.cons (.ifs (.not (.call 3 false (.val (.var 0) .nil))) (.cons (.raise .table) .nil) .nil) .nil)
def F_need_table : FnI := ⟨"need_table", ["table"], ["table"], false, B_need_table⟩
abbrev i_need_table : Nat := 4
def B_turned : ISs := (.cons (.expr (.call 4 false (.val (.var 0) .nil))) (.cons (.ret (.blt .tuple (.cons (.comp (.nm 1) [("column", 1)] (.rng1 (.blt .len (.cons (.ixv 0 (.int 0)) .nil))) .yes (.blt .tuple (.cons (.comp (.nm 2) [("row", 2)] (.dat (.var 0)) .yes (.ixv 2 (.var 1))) .nil))) .nil))) .nil))
def F_turned : FnI := ⟨"turned", ["table", "column", "row"], ["table"], false, B_turned⟩
abbrev i_turned : Nat := 5
def B__law_cell : ISs := (.cons (.ifs (.nil 0) (.cons (.ret (.bin .mul (.var 1) (.int 7919))) .nil) .nil) (.cons (.ret (.bin .add (.ixv 0 (.bin .mod (.var 1) (.lenv 0))) (.bin .mul (.bin .fdiv (.var 1) (.lenv 0)) (.int 104729)))) .nil))
def F__law_cell : FnI := ⟨"_law_cell", ["_law_script", "_law_k"], ["_law_script", "_law_k"], false, B__law_cell⟩
abbrev i__law_cell : Nat := 6
def B__law_drawn : ISs := (.cons (.set 2 (.bin .mod (.bin .add (.bin .mul (.var 0) (.int 6364136223846793005)) (.bin .mul (.bin .add (.var 1) (.int 1)) (.int 1442695040888963407))) (.int 340282366920938463463374607431768211507))) (.cons (.set 2 (.bin .mod (.bin .mul (.var 2) (.var 2)) (.int 340282366920938463463374607431768211297))) (.cons (.set 2 (.bin .mul (.bin .mul (.bin .add (.bin .mod (.var 2) (.int 18446744073709551557)) (.int 1)) (.bin .add (.bin .fdiv (.var 2) (.int 18446744073709551557)) (.int 1))) (.var 2))) (.cons (.ret (.bin .mod (.var 2) (.int 340282366920938463463374607431768211507))) .nil))))
def F__law_drawn : FnI := ⟨"_law_drawn", ["_law_cell_here", "_law_k", "_law_more"], ["_law_cell_here", "_law_k"], false, B__law_drawn⟩
abbrev i__law_drawn : Nat := 7
def B__law_roll : ISs := (.cons (.ifs (.cmp .ge (.ixv 0 (.int 0)) (.bin .pow (.int 10) (.int 18))) (.cons (.set 2 (.bin .mod (.ixv 0 (.int 0)) (.var 1))) (.cons (.st 0 (.bin .fdiv (.ixv 0 (.int 0)) (.var 1)) (.int 0)) (.cons (.ret (.var 2)) .nil))) .nil) (.cons (.st 0 (.bin .add (.ixv 0 (.int 1)) (.int 1)) (.int 1)) (.cons (.ret (.bin .mod (.bin .fdiv (.call 7 false (.val (.ixv 0 (.int 0)) (.val (.ixv 0 (.int 1)) .nil))) (.int 8)) (.var 1))) .nil)))
def F__law_roll : FnI := ⟨"_law_roll", ["_law_dice", "_law_many", "_law_told_here"], ["_law_dice", "_law_many"], false, B__law_roll⟩
abbrev i__law_roll : Nat := 8
def B__law_any_size : ISs := (.cons (.ret (.tup (.cons (.bin .add (.int 1) (.call 8 false (.slo 0 (.val (.var 1) .nil)))) (.cons (.bin .add (.int 1) (.call 8 false (.slo 0 (.val (.var 1) .nil)))) .nil)))) .nil)
def F__law_any_size : FnI := ⟨"_law_any_size", ["_law_dice", "_law_most"], ["_law_dice", "_law_most"], false, B__law_any_size⟩
abbrev i__law_any_size : Nat := 12
def B__law_places : ISs := (.cons (.setL 1) (.cons (.for_ (.nm 2) (.rng1 (.ixv 0 (.int 0))) (.cons (.set 1 (.bin .add (.var 1) (.comp (.nm 3) [("_law_column", 3)] (.rng1 (.ixv 0 (.int 1))) .yes (.tup (.cons (.var 2) (.cons (.var 3) .nil)))))) .nil)) (.cons (.ret (.var 1)) .nil)))
def F__law_places : FnI := ⟨"_law_places", ["_law_size", "_law_found", "_law_row", "_law_column"], ["_law_size"], false, B__law_places⟩
abbrev i__law_places : Nat := 13
def B__law_any_table : ISs := (.cons (.par 2 3 (.val (.bin .add (.int 1) (.call 8 false (.slo 0 (.val (.ix (.lst (.cons (.int 2) (.cons (.int 5) (.cons (.int 60) .nil)))) (.call 8 false (.slo 0 (.val (.int 3) .nil)))) .nil)))) (.lst .nil))) (.cons (.for_ (.nm 4) (.rng1 (.ixv 1 (.int 0))) (.cons (.setL 5) (.cons (.for_ (.nm 6) (.rng1 (.ixv 1 (.int 1))) (.cons (.set 7 (.ite (.cmp .gt (.var 4) (.int 0)) (.ix (.ixv 3 (.bin .sub (.var 4) (.int 1))) (.var 6)) (.neg (.int 20)))) (.cons (.set 8 (.blt .max (.cons (.var 7) (.cons (.ite (.cmp .gt (.var 6) (.int 0)) (.ixv 5 (.neg (.int 1))) (.neg (.int 20))) .nil)))) (.cons (.app 5 (.bin .add (.bin .add (.var 8) (.int 1)) (.call 8 false (.slo 0 (.val (.var 2) .nil))))) .nil)))) (.cons (.app 3 (.var 5)) .nil)))) (.cons (.ret (.blt .tuple (.cons (.comp (.nm 5) [("_law_entries", 5)] (.dat (.var 3)) .yes (.blt .tuple (.cons (.var 5) .nil))) .nil))) .nil)))
def F__law_any_table : FnI := ⟨"_law_any_table", ["_law_dice", "_law_size", "_law_step", "_law_rows", "_law_row", "_law_entries", "_law_column", "_law_above", "_law_low"], ["_law_dice", "_law_size"], false, B__law_any_table⟩
abbrev i__law_any_table : Nat := 14
def B__law_is_rising : ISs := (.cons (.ifs (.or (.cons (.cmp .ne (.lenv 0) (.ixv 1 (.int 0))) (.cons (.not (.blt .all (.cons (.comp (.nm 2) [("_law_row", 2)] (.dat (.var 0)) .yes (.cmp .eq (.lenv 2) (.ixv 1 (.int 1)))) .nil))) .nil))) (.cons (.ret (.bl false)) .nil) .nil) (.cons (.for_ (.tp (.cons (.nm 2) (.cons (.nm 3) .nil))) (.dat (.call 13 false (.val (.var 1) .nil))) (.cons (.ifs (.and (.cons (.cmp .gt (.var 2) (.int 0)) (.cons (.cmp .ge (.ix (.ixv 0 (.bin .sub (.var 2) (.int 1))) (.var 3)) (.ix (.ixv 0 (.var 2)) (.var 3))) .nil))) (.cons (.ret (.bl false)) .nil) .nil) (.cons (.ifs (.and (.cons (.cmp .gt (.var 3) (.int 0)) (.cons (.cmp .ge (.ix (.ixv 0 (.var 2)) (.bin .sub (.var 3) (.int 1))) (.ix (.ixv 0 (.var 2)) (.var 3))) .nil))) (.cons (.ret (.bl false)) .nil) .nil) .nil))) (.cons (.ret (.bl true)) .nil)))
def F__law_is_rising : FnI := ⟨"_law_is_rising", ["_law_table", "_law_size", "_law_row", "_law_column"], ["_law_table", "_law_size"], false, B__law_is_rising⟩
abbrev i__law_is_rising : Nat := 15
def B_need_number : ISs := (.cons (.ifs (.not (.call 0 false (.val (.var 0) (.val (.neg (.int 999)) (.val (.int 999) .nil))))) (.cons (.raise .number) .nil) .nil) .nil)
def F_need_number : FnI := ⟨"need_number", ["x"], ["x"], false, B_need_number⟩
abbrev i_need_number : Nat := 17
def B_size_of : ISs := (.cons (.ret (.tup (.cons (.lenv 0) (.cons (.blt .len (.cons (.ixv 0 (.int 0)) .nil)) .nil)))) .nil)
def F_size_of : FnI := ⟨"size_of", ["table"], ["table"], false, B_size_of⟩
abbrev i_size_of : Nat := 18
def B_all_places : ISs := (.cons (.setL 1) (.cons (.for_ (.nm 2) (.rng1 (.ixv 0 (.int 0))) (.cons (.set 1 (.bin .add (.var 1) (.comp (.nm 3) [("column", 3)] (.rng1 (.ixv 0 (.int 1))) .yes (.tup (.cons (.var 2) (.cons (.var 3) .nil)))))) .nil)) (.cons (.ret (.var 1)) .nil)))
def F_all_places : FnI := ⟨"all_places", ["size", "found", "row", "column"], ["size"], false, B_all_places⟩
abbrev i_all_places : Nat := 19
def B_at : ISs := (.cons (.ret (.ix (.ixv 0 (.ixv 1 (.int 0))) (.ixv 1 (.int 1)))) .nil)
def F_at : FnI := ⟨"at", ["table", "place"], ["table", "place"], false, B_at⟩
abbrev i_at : Nat := 20
def B_places_of : ISs := (.cons (.expr (.call 4 false (.val (.var 0) .nil))) (.cons (.expr (.call 17 false (.val (.var 1) .nil))) (.cons (.ret (.blt .tuple (.cons (.comp (.nm 2) [("place", 2)] (.dat (.call 19 false (.val (.call 18 false (.val (.var 0) .nil)) .nil))) (.tst (.cmp .eq (.call 20 false (.val (.var 0) (.val (.var 2) .nil))) (.var 1))) (.var 2)) .nil))) .nil)))
def F_places_of : FnI := ⟨"places_of", ["table", "x", "place"], ["table", "x"], false, B_places_of⟩
abbrev i_places_of : Nat := 21
def B_entries_of : ISs := (.cons (.ret (.blt .sorted (.cons (.comp (.nm 1) [("place", 1)] (.dat (.call 19 false (.val (.call 18 false (.val (.var 0) .nil)) .nil))) .yes (.call 20 false (.val (.var 0) (.val (.var 1) .nil)))) .nil))) .nil)
def F_entries_of : FnI := ⟨"entries_of", ["table", "place"], ["table"], false, B_entries_of⟩
abbrev i_entries_of : Nat := 22
def B_count_less : ISs := (.cons (.expr (.call 4 false (.val (.var 0) .nil))) (.cons (.expr (.call 17 false (.val (.var 1) .nil))) (.cons (.ret (.blt .len (.cons (.comp (.nm 2) [("one", 2)] (.dat (.call 22 false (.val (.var 0) .nil))) (.tst (.cmp .lt (.var 2) (.var 1))) (.var 2)) .nil))) .nil)))
def F_count_less : FnI := ⟨"count_less", ["table", "x", "one"], ["table", "x"], false, B_count_less⟩
abbrev i_count_less : Nat := 23
def B_kth : ISs := (.cons (.expr (.call 4 false (.val (.var 0) .nil))) (.cons (.set 2 (.call 22 false (.val (.var 0) .nil))) (.cons (.ifs (.not (.call 0 false (.val (.var 1) (.val (.int 1) (.val (.lenv 2) .nil))))) (.cons (.raise .count) .nil) .nil) (.cons (.ret (.ixv 2 (.bin .sub (.var 1) (.int 1)))) .nil))))
def F_kth : FnI := ⟨"kth", ["table", "k", "some"], ["table", "k"], false, B_kth⟩
abbrev i_kth : Nat := 24
def B__law_any_number : ISs := (.cons (.set 2 (.ixv 1 (.call 8 false (.slo 0 (.val (.lenv 1) .nil))))) (.cons (.ret (.bin .add (.ixv 2 (.call 8 false (.slo 0 (.val (.lenv 2) .nil)))) (.ix (.lst (.cons (.int 0) (.cons (.int 0) (.cons (.int 1) (.cons (.neg (.int 1)) .nil))))) (.call 8 false (.slo 0 (.val (.int 4) .nil)))))) .nil))
def F__law_any_number : FnI := ⟨"_law_any_number", ["_law_dice", "_law_table", "_law_row"], ["_law_dice", "_law_table"], false, B__law_any_number⟩
abbrev i__law_any_number : Nat := 25
def B_is_place : ISs := (.cons (.ifs (.or (.cons (.not (.isi .tuple (.var 1))) (.cons (.cmp .ne (.lenv 1) (.int 2)) .nil))) (.cons (.ret (.bl false)) .nil) .nil) (.cons (.ret (.and (.cons (.call 0 false (.val (.ixv 1 (.int 0)) (.val (.int 0) (.val (.bin .sub (.ixv 0 (.int 0)) (.int 1)) .nil)))) (.cons (.call 0 false (.val (.ixv 1 (.int 1)) (.val (.int 0) (.val (.bin .sub (.ixv 0 (.int 1)) (.int 1)) .nil)))) .nil)))) .nil))
def F_is_place : FnI := ⟨"is_place", ["size", "value"], ["size", "value"], false, B_is_place⟩
abbrev i_is_place : Nat := 26
def B_border_steps : ISs := (.cons (.expr (.call 4 false (.val (.var 0) .nil))) (.cons (.expr (.call 17 false (.val (.var 1) .nil))) (.cons (.par 2 3 (.val (.tup (.cons (.int 0) (.cons (.bin .sub (.blt .len (.cons (.ixv 0 (.int 0)) .nil)) (.int 1)) .nil))) (.lst .nil))) (.cons (.while_ 100 (.call 26 false (.val (.call 18 false (.val (.var 0) .nil)) (.val (.var 2) .nil))) (.cons (.app 3 (.var 2)) (.cons (.set 4 (.call 20 false (.val (.var 0) (.val (.var 2) .nil)))) (.cons (.ifs (.cmp .eq (.var 4) (.var 1)) (.cons (.brk) .nil) .nil) (.cons (.set 2 (.ite (.cmp .gt (.var 4) (.var 1)) (.tup (.cons (.ixv 2 (.int 0)) (.cons (.bin .sub (.ixv 2 (.int 1)) (.int 1)) .nil))) (.tup (.cons (.bin .add (.ixv 2 (.int 0)) (.int 1)) (.cons (.ixv 2 (.int 1)) .nil))))) .nil))))) (.cons (.ret (.blt .tuple (.cons (.var 3) .nil))) .nil)))))
def F_border_steps : FnI := ⟨"border_steps", ["table", "x", "place", "found", "entry"], ["table", "x"], false, B_border_steps⟩
abbrev i_border_steps : Nat := 27
def B_backward : ISs := (.cons (.expr (.call 4 false (.val (.var 0) .nil))) (.cons (.ret (.blt .tuple (.cons (.comp (.nm 1) [("row", 1)] (.rev (.var 0)) .yes (.blt .tuple (.cons (.comp (.nm 2) [("one", 2)] (.rev (.var 1)) .yes (.neg (.var 2))) .nil))) .nil))) .nil))
def F_backward : FnI := ⟨"backward", ["table", "row", "one"], ["table"], false, B_backward⟩
abbrev i_backward : Nat := 28
def B_is_size : ISs := (.cons (.ret (.and (.cons (.isi .tuple (.var 0)) (.cons (.cmp .eq (.lenv 0) (.int 2)) (.cons (.blt .all (.cons (.comp (.nm 1) [("one", 1)] (.dat (.var 0)) .yes (.call 0 false (.val (.var 1) (.val (.int 1) (.val (.int 4) .nil))))) .nil)) .nil))))) .nil)
def F_is_size : FnI := ⟨"is_size", ["value", "one"], ["value"], false, B_is_size⟩
abbrev i_is_size : Nat := 29
def B_need_size : ISs := (.cons (.ifs (.not (.call 29 false (.val (.var 0) .nil))) (.cons (.raise .size) .nil) .nil) .nil)
def F_need_size : FnI := ⟨"need_size", ["size"], ["size"], false, B_need_size⟩
abbrev i_need_size : Nat := 30
def B_is_answer : ISs := (.cons (.ret (.and (.cons (.isi .str (.var 0)) (.cons (.cmp .isin (.var 0) (.glb 0)) .nil)))) .nil)
def F_is_answer : FnI := ⟨"is_answer", ["value"], ["value"], false, B_is_answer⟩
abbrev i_is_answer : Nat := 31
def B_is_look : ISs := (.cons (.ret (.and (.cons (.isi .tuple (.var 1)) (.cons (.cmp .eq (.lenv 1) (.int 2)) (.cons (.call 26 false (.val (.var 0) (.val (.ixv 1 (.int 0)) .nil))) (.cons (.call 31 false (.val (.ixv 1 (.int 1)) .nil)) .nil)))))) .nil)
def F_is_look : FnI := ⟨"is_look", ["size", "value"], ["size", "value"], false, B_is_look⟩
abbrev i_is_look : Nat := 32
def B_good_story : ISs := (.cons (.ret (.and (.cons (.isi .tuple (.var 1)) (.cons (.cmp .le (.lenv 1) (.int 20)) (.cons (.blt .all (.cons (.comp (.nm 2) [("one", 2)] (.dat (.var 1)) .yes (.call 32 false (.val (.var 0) (.val (.var 2) .nil)))) .nil)) .nil))))) .nil)
def F_good_story : FnI := ⟨"good_story", ["size", "value", "one"], ["size", "value"], false, B_good_story⟩
abbrev i_good_story : Nat := 33
def B_is_story : ISs := (.cons (.expr (.call 30 false (.val (.var 0) .nil))) (.cons (.ret (.call 33 false (.val (.var 0) (.val (.var 1) .nil)))) .nil))
def F_is_story : FnI := ⟨"is_story", ["size", "value"], ["size", "value"], false, B_is_story⟩
abbrev i_is_story : Nat := 34
def B_need_looks : ISs := (.cons (.expr (.call 30 false (.val (.var 0) .nil))) (.cons (.ifs (.not (.call 33 false (.val (.var 0) (.val (.var 1) .nil)))) (.cons (.raise .story) .nil) .nil) .nil))
def F_need_looks : FnI := ⟨"need_looks", ["size", "story"], ["size", "story"], false, B_need_looks⟩
abbrev i_need_looks : Nat := 35
def B_is_up_to : ISs := (.cons (.ret (.and (.cons (.cmp .le (.ixv 0 (.int 0)) (.ixv 1 (.int 0))) (.cons (.cmp .le (.ixv 0 (.int 1)) (.ixv 1 (.int 1))) .nil)))) .nil)
def F_is_up_to : FnI := ⟨"is_up_to", ["one", "other"], ["one", "other"], false, B_is_up_to⟩
abbrev i_is_up_to : Nat := 36
def B_clashing : ISs := (.cons (.asg (.tp (.cons (.tp (.cons (.nm 2) (.cons (.nm 3) .nil))) (.cons (.tp (.cons (.nm 4) (.cons (.nm 5) .nil))) .nil))) (.tup (.cons (.var 0) (.cons (.var 1) .nil)))) (.cons (.ifs (.cmp .eq (.var 3) (.str "less")) (.cons (.ret (.and (.cons (.cmp .ne (.var 5) (.str "less")) (.cons (.call 36 false (.val (.var 4) (.val (.var 2) .nil))) .nil)))) .nil) .nil) (.cons (.ifs (.cmp .eq (.var 3) (.str "greater")) (.cons (.ret (.and (.cons (.cmp .ne (.var 5) (.str "greater")) (.cons (.call 36 false (.val (.var 2) (.val (.var 4) .nil))) .nil)))) .nil) .nil) (.cons (.ret (.and (.cons (.cmp .eq (.var 5) (.str "equal")) (.cons (.cmp .ne (.var 2) (.var 4)) (.cons (.call 36 false (.val (.var 2) (.val (.var 4) .nil))) .nil))))) .nil))))
def F_clashing : FnI := ⟨"clashing", ["one", "other", "place", "answer", "goal", "reply"], ["one", "other"], false, B_clashing⟩
abbrev i_clashing : Nat := 37
def B_first_clash : ISs := (.cons (.for_ (.tp (.cons (.nm 1) (.cons (.nm 2) .nil))) (.enm (.var 0)) (.cons (.for_ (.nm 3) (.rng2 (.bin .add (.var 1) (.int 1)) (.lenv 0)) (.cons (.ifs (.or (.cons (.call 37 false (.val (.var 2) (.val (.ixv 0 (.var 3)) .nil))) (.cons (.call 37 false (.val (.ixv 0 (.var 3)) (.val (.var 2) .nil))) .nil))) (.cons (.ret (.tup (.cons (.var 1) (.cons (.var 3) .nil)))) .nil) .nil) .nil)) .nil)) (.cons (.ret .non) .nil))
def F_first_clash : FnI := ⟨"first_clash", ["story", "i", "one", "j"], ["story"], false, B_first_clash⟩
abbrev i_first_clash : Nat := 38
def B_clash : ISs := (.cons (.expr (.call 35 false (.val (.var 0) (.val (.var 1) .nil)))) (.cons (.ret (.call 38 false (.val (.var 1) .nil))) .nil))
def F_clash : FnI := ⟨"clash", ["size", "story"], ["size", "story"], false, B_clash⟩
abbrev i_clash : Nat := 39
def B__law_answer : ISs := (.cons (.set 3 (.ix (.ixv 0 (.ixv 1 (.int 0))) (.ixv 1 (.int 1)))) (.cons (.ret (.ite (.cmp .lt (.var 3) (.var 2)) (.str "less") (.ite (.cmp .gt (.var 3) (.var 2)) (.str "greater") (.str "equal")))) .nil))
def F__law_answer : FnI := ⟨"_law_answer", ["_law_table", "_law_place", "_law_x", "_law_entry"], ["_law_table", "_law_place", "_law_x"], false, B__law_answer⟩
abbrev i__law_answer : Nat := 40
def B__law_any_story : ISs := (.cons (.par 5 6 (.lst (.val (.and (.cons (.var 4) (.cons (.cmp .eq (.call 8 false (.slo 0 (.val (.int 3) .nil))) (.int 0)) .nil))) .nil))) (.cons (.for_ (.nm 7) (.rng1 (.call 8 false (.slo 0 (.val (.bin .add (.var 3) (.int 1)) .nil)))) (.cons (.set 8 (.tup (.cons (.call 8 false (.slo 0 (.val (.lenv 1) .nil))) (.cons (.call 8 false (.slo 0 (.val (.blt .len (.cons (.ixv 1 (.int 0)) .nil)) .nil))) .nil)))) (.cons (.set 9 (.call 40 false (.val (.var 1) (.val (.var 8) (.val (.var 2) .nil))))) (.cons (.ifs (.and (.cons (.var 6) (.cons (.cmp .eq (.call 8 false (.slo 0 (.val (.int 3) .nil))) (.int 0)) .nil))) (.cons (.set 9 (.ix (.lst (.cons (.str "less") (.cons (.str "greater") (.cons (.str "equal") .nil)))) (.call 8 false (.slo 0 (.val (.int 3) .nil))))) .nil) .nil) (.cons (.app 5 (.tup (.cons (.var 8) (.cons (.var 9) .nil)))) .nil))))) (.cons (.ret (.blt .tuple (.cons (.var 5) .nil))) .nil)))
def F__law_any_story : FnI := ⟨"_law_any_story", ["_law_dice", "_law_table", "_law_x", "_law_most", "_law_bent", "_law_found", "_law_wrong", "_law_turn", "_law_place", "_law_answer_here"], ["_law_dice", "_law_table", "_law_x", "_law_most", "_law_bent"], false, B__law_any_story⟩
abbrev i__law_any_story : Nat := 41
def B__law_up_to : ISs := (.cons (.ret (.and (.cons (.cmp .le (.ixv 0 (.int 0)) (.ixv 1 (.int 0))) (.cons (.cmp .le (.ixv 0 (.int 1)) (.ixv 1 (.int 1))) .nil)))) .nil)
def F__law_up_to : FnI := ⟨"_law_up_to", ["_law_one", "_law_other"], ["_law_one", "_law_other"], false, B__law_up_to⟩
abbrev i__law_up_to : Nat := 42
def B__law_clash : ISs := (.cons (.for_ (.tp (.cons (.tp (.cons (.nm 2) (.cons (.nm 3) .nil))) (.cons (.tp (.cons (.nm 4) (.cons (.nm 5) .nil))) .nil))) (.dat (.lst (.cons (.tup (.cons (.var 0) (.cons (.var 1) .nil))) (.cons (.tup (.cons (.var 1) (.cons (.var 0) .nil))) .nil)))) (.cons (.ifs (.and (.cons (.cmp .eq (.var 3) (.str "less")) (.cons (.cmp .ne (.var 5) (.str "less")) (.cons (.call 42 false (.val (.var 4) (.val (.var 2) .nil))) .nil)))) (.cons (.ret (.bl true)) .nil) .nil) (.cons (.ifs (.and (.cons (.cmp .eq (.var 3) (.str "greater")) (.cons (.cmp .ne (.var 5) (.str "greater")) (.cons (.call 42 false (.val (.var 2) (.val (.var 4) .nil))) .nil)))) (.cons (.ret (.bl true)) .nil) .nil) (.cons (.ifs (.and (.cons (.cmp2 .eq .eq (.var 3) (.var 5) (.str "equal")) (.cons (.cmp .ne (.var 2) (.var 4)) (.cons (.call 42 false (.val (.var 2) (.val (.var 4) .nil))) .nil)))) (.cons (.ret (.bl true)) .nil) .nil) .nil)))) (.cons (.ret (.bl false)) .nil))
def F__law_clash : FnI := ⟨"_law_clash", ["_law_one", "_law_other", "_law_place", "_law_answer_here", "_law_goal", "_law_reply"], ["_law_one", "_law_other"], false, B__law_clash⟩
abbrev i__law_clash : Nat := 43
def B__law_first_clash : ISs := (.cons (.for_ (.nm 1) (.rng1 (.lenv 0)) (.cons (.for_ (.nm 2) (.rng2 (.bin .add (.var 1) (.int 1)) (.lenv 0)) (.cons (.ifs (.call 43 false (.val (.ixv 0 (.var 1)) (.val (.ixv 0 (.var 2)) .nil))) (.cons (.ret (.tup (.cons (.var 1) (.cons (.var 2) .nil)))) .nil) .nil) .nil)) .nil)) (.cons (.ret .non) .nil))
def F__law_first_clash : FnI := ⟨"_law_first_clash", ["_law_story", "_law_i", "_law_j"], ["_law_story"], false, B__law_first_clash⟩
abbrev i__law_first_clash : Nat := 44
def B_is_surely_less : ISs := (.cons (.for_ (.tp (.cons (.nm 2) (.cons (.nm 3) .nil))) (.dat (.var 0)) (.cons (.ifs (.and (.cons (.cmp .eq (.var 3) (.str "less")) (.cons (.call 36 false (.val (.var 1) (.val (.var 2) .nil))) .nil))) (.cons (.ret (.bl true)) .nil) .nil) (.cons (.ifs (.and (.cons (.cmp .eq (.var 3) (.str "equal")) (.cons (.cmp .ne (.var 1) (.var 2)) (.cons (.call 36 false (.val (.var 1) (.val (.var 2) .nil))) .nil)))) (.cons (.ret (.bl true)) .nil) .nil) .nil))) (.cons (.ret (.bl false)) .nil))
def F_is_surely_less : FnI := ⟨"is_surely_less", ["story", "place", "goal", "answer"], ["story", "place"], false, B_is_surely_less⟩
abbrev i_is_surely_less : Nat := 45
def B_fitting : ISs := (.cons (.set 4 (.comp (.tp (.cons (.nm 2) (.cons (.nm 3) .nil))) [("place", 2), ("answer", 3)] (.dat (.var 1)) (.tst (.cmp .eq (.var 3) (.str "equal"))) (.var 2))) (.cons (.setL 5) (.cons (.for_ (.nm 6) (.rng1 (.ixv 0 (.int 0))) (.cons (.setL 7) (.cons (.for_ (.nm 8) (.rng1 (.ixv 0 (.int 1))) (.cons (.set 2 (.tup (.cons (.var 6) (.cons (.var 8) .nil)))) (.cons (.ifs (.inS false 4 (.var 2)) (.cons (.app 7 (.int 0)) .nil) (.cons (.app 7 (.bin .add (.bin .add (.var 6) (.var 8)) (.ite (.call 45 false (.val (.var 1) (.val (.var 2) .nil))) (.neg (.int 100)) (.int 100)))) .nil)) .nil))) (.cons (.app 5 (.blt .tuple (.cons (.var 7) .nil))) .nil)))) (.cons (.ret (.tup (.cons (.blt .tuple (.cons (.var 5) .nil)) (.cons (.int 0) .nil)))) .nil))))
def F_fitting : FnI := ⟨"fitting", ["size", "story", "place", "answer", "equals", "rows", "row", "entries", "column"], ["size", "story"], false, B_fitting⟩
abbrev i_fitting : Nat := 46
def B_witness : ISs := (.cons (.expr (.call 35 false (.val (.var 0) (.val (.var 1) .nil)))) (.cons (.ret (.ite (.cmp .isn (.call 38 false (.val (.var 1) .nil)) .non) (.call 46 false (.val (.var 0) (.val (.var 1) .nil))) .non)) .nil))
def F_witness : FnI := ⟨"witness", ["size", "story"], ["size", "story"], false, B_witness⟩
abbrev i_witness : Nat := 47
def B_are_right : ISs := (.cons (.for_ (.tp (.cons (.nm 3) (.cons (.nm 4) .nil))) (.dat (.var 0)) (.cons (.set 5 (.call 20 false (.val (.var 1) (.val (.var 3) .nil)))) (.cons (.ifs (.cmp .ne (.var 4) (.ite (.cmp .lt (.var 5) (.var 2)) (.str "less") (.ite (.cmp .gt (.var 5) (.var 2)) (.str "greater") (.str "equal")))) (.cons (.ret (.bl false)) .nil) .nil) .nil))) (.cons (.ret (.bl true)) .nil))
def F_are_right : FnI := ⟨"are_right", ["story", "table", "x", "place", "answer", "entry"], ["story", "table", "x"], false, B_are_right⟩
abbrev i_are_right : Nat := 48
def B_is_witness : ISs := (.cons (.expr (.call 35 false (.val (.var 0) (.val (.var 1) .nil)))) (.cons (.ifs (.or (.cons (.not (.isi .tuple (.var 2))) (.cons (.cmp .ne (.lenv 2) (.int 2)) (.cons (.not (.call 3 false (.val (.ixv 2 (.int 0)) .nil))) (.cons (.not (.call 0 false (.val (.ixv 2 (.int 1)) (.val (.neg (.int 999)) (.val (.int 999) .nil))))) .nil))))) (.cons (.ret (.bl false)) .nil) .nil) (.cons (.ret (.and (.cons (.cmp .eq (.call 18 false (.val (.ixv 2 (.int 0)) .nil)) (.var 0)) (.cons (.call 48 false (.val (.var 1) (.val (.ixv 2 (.int 0)) (.val (.ixv 2 (.int 1)) .nil)))) .nil)))) .nil)))
def F_is_witness : FnI := ⟨"is_witness", ["size", "story", "value"], ["size", "story", "value"], false, B_is_witness⟩
abbrev i_is_witness : Nat := 49
def B__law_fits : ISs := (.cons (.ret (.blt .all (.cons (.comp (.tp (.cons (.nm 3) (.cons (.nm 4) .nil))) [("_law_place", 3), ("_law_answer_here", 4)] (.dat (.var 0)) .yes (.cmp .eq (.call 40 false (.val (.var 1) (.val (.var 3) (.val (.var 2) .nil)))) (.var 4))) .nil))) .nil)
def F__law_fits : FnI := ⟨"_law_fits", ["_law_story", "_law_table", "_law_x", "_law_place", "_law_answer_here"], ["_law_story", "_law_table", "_law_x"], false, B__law_fits⟩
abbrev i__law_fits : Nat := 50
def B__law_all_tables : ISs := (.cons (.setL 0) (.cons (.for_ (.nm 1) (.rng2 (.neg (.int 3)) (.int 4)) (.cons (.for_ (.nm 2) (.rng2 (.bin .add (.var 1) (.int 1)) (.int 4)) (.cons (.for_ (.nm 3) (.rng2 (.bin .add (.var 1) (.int 1)) (.int 4)) (.cons (.set 0 (.bin .add (.var 0) (.comp (.nm 4) [("_law_d", 4)] (.rng2 (.bin .add (.blt .max (.cons (.var 2) (.cons (.var 3) .nil))) (.int 1)) (.int 4)) .yes (.tup (.cons (.tup (.cons (.var 1) (.cons (.var 2) .nil))) (.cons (.tup (.cons (.var 3) (.cons (.var 4) .nil))) .nil)))))) .nil)) .nil)) .nil)) (.cons (.ret (.var 0)) .nil)))
def F__law_all_tables : FnI := ⟨"_law_all_tables", ["_law_found", "_law_a", "_law_b", "_law_c", "_law_d"], [], false, B__law_all_tables⟩
abbrev i__law_all_tables : Nat := 51
def B_need_place : ISs := (.cons (.ifs (.not (.call 26 false (.val (.var 0) (.val (.var 1) .nil)))) (.cons (.raise .place) .nil) .nil) .nil)
def F_need_place : FnI := ⟨"need_place", ["size", "place"], ["size", "place"], false, B_need_place⟩
abbrev i_need_place : Nat := 52
def B_need_story : ISs := (.cons (.expr (.call 35 false (.val (.var 0) (.val (.var 1) .nil)))) (.cons (.ifs (.cmp .notn (.call 38 false (.val (.var 1) .nil)) .non) (.cons (.raise .clash) .nil) .nil) .nil))
def F_need_story : FnI := ⟨"need_story", ["size", "story"], ["size", "story"], false, B_need_story⟩
abbrev i_need_story : Nat := 53
def B_left_places : ISs := (.cons (.ret (.comp (.nm 2) [("place", 2)] (.dat (.call 19 false (.val (.var 0) .nil))) (.tst (.cmp .isn (.call 38 false (.val (.bin .add (.var 1) (.tup (.cons (.tup (.cons (.var 2) (.cons (.str "equal") .nil))) .nil))) .nil)) .non)) (.var 2))) .nil)
def F_left_places : FnI := ⟨"left_places", ["size", "story", "place"], ["size", "story"], false, B_left_places⟩
abbrev i_left_places : Nat := 54
def B_left : ISs := (.cons (.expr (.call 53 false (.val (.var 0) (.val (.var 1) .nil)))) (.cons (.ret (.blt .tuple (.cons (.call 54 false (.val (.var 0) (.val (.var 1) .nil))) .nil))) .nil))
def F_left : FnI := ⟨"left", ["size", "story"], ["size", "story"], false, B_left⟩
abbrev i_left : Nat := 55
def B_standing : ISs := (.cons (.expr (.call 53 false (.val (.var 0) (.val (.var 1) .nil)))) (.cons (.expr (.call 52 false (.val (.var 0) (.val (.var 2) .nil)))) (.cons (.set 3 (.bin .add (.var 1) (.tup (.cons (.tup (.cons (.var 2) (.cons (.str "equal") .nil))) .nil)))) (.cons (.ret (.ite (.cmp .isn (.call 38 false (.val (.var 3) .nil)) .non) (.call 46 false (.val (.var 0) (.val (.var 3) .nil))) .non)) .nil))))
def F_standing : FnI := ⟨"standing", ["size", "story", "place", "more"], ["size", "story", "place"], false, B_standing⟩
abbrev i_standing : Nat := 56
def B_is_surely_greater : ISs := (.cons (.for_ (.tp (.cons (.nm 2) (.cons (.nm 3) .nil))) (.dat (.var 0)) (.cons (.ifs (.and (.cons (.cmp .eq (.var 3) (.str "greater")) (.cons (.call 36 false (.val (.var 2) (.val (.var 1) .nil))) .nil))) (.cons (.ret (.bl true)) .nil) .nil) (.cons (.ifs (.and (.cons (.cmp .eq (.var 3) (.str "equal")) (.cons (.cmp .ne (.var 1) (.var 2)) (.cons (.call 36 false (.val (.var 2) (.val (.var 1) .nil))) .nil)))) (.cons (.ret (.bl true)) .nil) .nil) .nil))) (.cons (.ret (.bl false)) .nil))
def F_is_surely_greater : FnI := ⟨"is_surely_greater", ["story", "place", "goal", "answer"], ["story", "place"], false, B_is_surely_greater⟩
abbrev i_is_surely_greater : Nat := 57
def B_surely : ISs := (.cons (.expr (.call 53 false (.val (.var 0) (.val (.var 1) .nil)))) (.cons (.set 3 (.blt .tuple (.cons (.comp (.nm 2) [("place", 2)] (.dat (.call 19 false (.val (.var 0) .nil))) (.tst (.call 45 false (.val (.var 1) (.val (.var 2) .nil)))) (.var 2)) .nil))) (.cons (.ret (.tup (.cons (.var 3) (.cons (.blt .tuple (.cons (.comp (.nm 2) [("place", 2)] (.dat (.call 19 false (.val (.var 0) .nil))) (.tst (.call 57 false (.val (.var 1) (.val (.var 2) .nil)))) (.var 2)) .nil)) .nil)))) .nil)))
def F_surely : FnI := ⟨"surely", ["size", "story", "place", "less"], ["size", "story"], false, B_surely⟩
abbrev i_surely : Nat := 58
def B_need_of : ISs := (.cons (.ifs (.cmp .eq (.var 0) (.tup .nil)) (.cons (.ret (.int 0)) .nil) .nil) (.cons (.ifs (.inS true 1 (.var 0)) (.cons (.st 1 (.bin .add (.int 1) (.blt .min (.cons (.comp (.nm 2) [("place", 2)] (.dat (.var 0)) .yes (.call 62 false (.val (.var 0) (.val (.var 2) (.slo 1 .nil))))) .nil))) (.var 0)) .nil) .nil) (.cons (.ret (.ixv 1 (.var 0))) .nil)))
def F_need_of : FnI := ⟨"need_of", ["places", "known", "place"], ["places", "known"], false, B_need_of⟩
abbrev i_need_of : Nat := 59
def B_without_up_to : ISs := (.cons (.ret (.blt .tuple (.cons (.comp (.nm 2) [("one", 2)] (.dat (.var 0)) (.tst (.not (.call 36 false (.val (.var 2) (.val (.var 1) .nil))))) (.var 2)) .nil))) .nil)
def F_without_up_to : FnI := ⟨"without_up_to", ["places", "place", "one"], ["places", "place"], false, B_without_up_to⟩
abbrev i_without_up_to : Nat := 60
def B_without_from : ISs := (.cons (.ret (.blt .tuple (.cons (.comp (.nm 2) [("one", 2)] (.dat (.var 0)) (.tst (.not (.call 36 false (.val (.var 1) (.val (.var 2) .nil))))) (.var 2)) .nil))) .nil)
def F_without_from : FnI := ⟨"without_from", ["places", "place", "one"], ["places", "place"], false, B_without_from⟩
abbrev i_without_from : Nat := 61
def B_worst : ISs := (.cons (.ret (.blt .max (.cons (.call 59 false (.val (.call 60 false (.val (.var 0) (.val (.var 1) .nil))) (.slo 2 .nil))) (.cons (.call 59 false (.val (.call 61 false (.val (.var 0) (.val (.var 1) .nil))) (.slo 2 .nil))) .nil)))) .nil)
def F_worst : FnI := ⟨"worst", ["places", "place", "known"], ["places", "place", "known"], false, B_worst⟩
abbrev i_worst : Nat := 62
def B_is_found : ISs := (.cons (.ret (.blt .any (.cons (.comp (.tp (.cons (.nm 1) (.cons (.nm 2) .nil))) [("place", 1), ("answer", 2)] (.dat (.var 0)) .yes (.cmp .eq (.var 2) (.str "equal"))) .nil))) .nil)
def F_is_found : FnI := ⟨"is_found", ["story", "place", "answer"], ["story"], false, B_is_found⟩
abbrev i_is_found : Nat := 63
def B_open_places : ISs := (.cons (.ret (.ite (.call 63 false (.val (.var 1) .nil)) (.tup .nil) (.blt .tuple (.cons (.call 54 false (.val (.var 0) (.val (.var 1) .nil))) .nil)))) .nil)
def F_open_places : FnI := ⟨"open_places", ["size", "story"], ["size", "story"], false, B_open_places⟩
abbrev i_open_places : Nat := 64
def B_need : ISs := (.cons (.expr (.call 53 false (.val (.var 0) (.val (.var 1) .nil)))) (.cons (.ret (.call 59 true (.val (.call 64 false (.val (.var 0) (.val (.var 1) .nil))) .nil))) .nil))
def F_need : FnI := ⟨"need", ["size", "story"], ["size", "story"], false, B_need⟩
abbrev i_need : Nat := 65
def B__law_need : ISs := (.cons (.ifs (.cmp .eq (.var 0) (.tup .nil)) (.cons (.ret (.int 0)) .nil) .nil) (.cons (.ifs (.inS true 1 (.var 0)) (.cons (.set 2 (.lenv 0)) (.cons (.for_ (.nm 3) (.dat (.var 0)) (.cons (.set 5 (.call 66 false (.val (.blt .tuple (.cons (.comp (.nm 4) [("_law_goal", 4)] (.dat (.var 0)) (.tst (.not (.call 42 false (.val (.var 4) (.val (.var 3) .nil))))) (.var 4)) .nil)) (.slo 1 .nil)))) (.cons (.set 6 (.call 66 false (.val (.blt .tuple (.cons (.comp (.nm 4) [("_law_goal", 4)] (.dat (.var 0)) (.tst (.not (.call 42 false (.val (.var 3) (.val (.var 4) .nil))))) (.var 4)) .nil)) (.slo 1 .nil)))) (.cons (.set 2 (.blt .min (.cons (.var 2) (.cons (.bin .add (.int 1) (.blt .max (.cons (.var 5) (.cons (.var 6) .nil)))) .nil)))) .nil)))) (.cons (.st 1 (.var 2) (.var 0)) .nil))) .nil) (.cons (.ret (.ixv 1 (.var 0))) .nil)))
def F__law_need : FnI := ⟨"_law_need", ["_law_places", "_law_known", "_law_best", "_law_place", "_law_goal", "_law_one", "_law_other"], ["_law_places", "_law_known"], false, B__law_need⟩
abbrev i__law_need : Nat := 66
def B_best_look : ISs := (.cons (.expr (.call 53 false (.val (.var 0) (.val (.var 1) .nil)))) (.cons (.par 2 3 (.val (.call 64 false (.val (.var 0) (.val (.var 1) .nil))) (.dct .nil))) (.cons (.for_ (.nm 4) (.dat (.var 2)) (.cons (.ifs (.cmp .eq (.bin .add (.call 62 false (.val (.var 2) (.val (.var 4) (.slo 3 .nil)))) (.int 1)) (.call 59 false (.val (.var 2) (.slo 3 .nil)))) (.cons (.ret (.var 4)) .nil) .nil) .nil)) (.cons (.ret .non) .nil))))
def F_best_look : FnI := ⟨"best_look", ["size", "story", "places", "known", "place"], ["size", "story"], false, B_best_look⟩
abbrev i_best_look : Nat := 67
def B_slow_answer : ISs := (.cons (.expr (.call 53 false (.val (.var 0) (.val (.var 1) .nil)))) (.cons (.expr (.call 52 false (.val (.var 0) (.val (.var 2) .nil)))) (.cons (.ifs (.call 63 false (.val (.var 1) .nil)) (.cons (.raise .found) .nil) .nil) (.cons (.ifs (.call 45 false (.val (.var 1) (.val (.var 2) .nil))) (.cons (.ret (.str "less")) .nil) .nil) (.cons (.ifs (.call 57 false (.val (.var 1) (.val (.var 2) .nil))) (.cons (.ret (.str "greater")) .nil) .nil) (.cons (.par 3 4 (.val (.call 64 false (.val (.var 0) (.val (.var 1) .nil))) (.dct .nil))) (.cons (.par 5 6 (.val (.call 59 false (.val (.call 60 false (.val (.var 3) (.val (.var 2) .nil))) (.slo 4 .nil))) (.val (.call 59 false (.val (.call 61 false (.val (.var 3) (.val (.var 2) .nil))) (.slo 4 .nil))) .nil))) (.cons (.ret (.ite (.cmp .ge (.var 5) (.var 6)) (.str "less") (.str "greater"))) .nil))))))))
def F_slow_answer : FnI := ⟨"slow_answer", ["size", "story", "place", "places", "known", "one", "other"], ["size", "story", "place"], false, B_slow_answer⟩
abbrev i_slow_answer : Nat := 68
def B_good_numbering : ISs := (.cons (.ifs (.or (.cons (.not (.call 3 false (.val (.var 1) .nil))) (.cons (.cmp .ne (.call 18 false (.val (.var 1) .nil)) (.var 0)) .nil))) (.cons (.ret (.bl false)) .nil) .nil) (.cons (.ret (.cmp .eq (.blt .sorted (.cons (.comp (.nm 2) [("place", 2)] (.dat (.call 19 false (.val (.var 0) .nil))) .yes (.call 20 false (.val (.var 1) (.val (.var 2) .nil)))) .nil)) (.lrg (.int 1) (.bin .add (.bin .mul (.ixv 0 (.int 0)) (.ixv 0 (.int 1))) (.int 1))))) .nil))
def F_good_numbering : FnI := ⟨"good_numbering", ["size", "value", "place"], ["size", "value"], false, B_good_numbering⟩
abbrev i_good_numbering : Nat := 69
def B_is_numbering : ISs := (.cons (.expr (.call 30 false (.val (.var 0) .nil))) (.cons (.ret (.call 69 false (.val (.var 0) (.val (.var 1) .nil)))) .nil))
def F_is_numbering : FnI := ⟨"is_numbering", ["size", "value"], ["size", "value"], false, B_is_numbering⟩
abbrev i_is_numbering : Nat := 70
def B_numbering_of : ISs := (.cons (.expr (.call 4 false (.val (.var 0) .nil))) (.cons (.set 1 (.call 18 false (.val (.var 0) .nil))) (.cons (.set 3 (.blt .sorted (.cons (.comp (.nm 2) [("place", 2)] (.dat (.call 19 false (.val (.var 1) .nil))) .yes (.tup (.cons (.call 20 false (.val (.var 0) (.val (.var 2) .nil))) (.cons (.var 2) .nil)))) .nil))) (.cons (.set 5 (.comp (.tp (.cons (.nm 4) (.cons (.nm 2) .nil))) [("entry", 4), ("place", 2)] (.dat (.var 3)) .yes (.var 2))) (.cons (.setL 6) (.cons (.for_ (.nm 7) (.rng1 (.ixv 1 (.int 0))) (.cons (.app 6 (.blt .tuple (.cons (.comp (.nm 8) [("column", 8)] (.rng1 (.ixv 1 (.int 1))) .yes (.bin .add (.idx (.var 5) (.tup (.cons (.var 7) (.cons (.var 8) .nil)))) (.int 1))) .nil))) .nil)) (.cons (.ret (.blt .tuple (.cons (.var 6) .nil))) .nil)))))))
def F_numbering_of : FnI := ⟨"numbering_of", ["table", "size", "place", "order", "entry", "places", "rows", "row", "column"], ["table"], false, B_numbering_of⟩
abbrev i_numbering_of : Nat := 71
def B_count_from : ISs := (.cons (.ifs (.blt .all (.cons (.comp (.nm 3) [("one", 3)] (.dat (.var 0)) .yes (.cmp .eq (.var 3) (.var 1))) .nil)) (.cons (.ret (.int 1)) .nil) .nil) (.cons (.ifs (.inS true 2 (.var 0)) (.cons (.set 4 (.int 0)) (.cons (.for_ (.tp (.cons (.nm 5) (.cons (.nm 3) .nil))) (.enm (.var 0)) (.cons (.ifs (.and (.cons (.cmp .lt (.var 3) (.var 1)) (.cons (.or (.cons (.cmp .eq (.var 5) (.int 0)) (.cons (.cmp .gt (.ixv 0 (.bin .sub (.var 5) (.int 1))) (.var 3)) .nil))) .nil))) (.cons (.aug 4 (.call 72 false (.val (.bin .add (.bin .add (.sl (.var 0) .non (.som (.var 5))) (.tup (.cons (.bin .add (.var 3) (.int 1)) .nil))) (.sl (.var 0) (.som (.bin .add (.var 5) (.int 1))) .non)) (.val (.var 1) (.slo 2 .nil))))) .nil) .nil) .nil)) (.cons (.st 2 (.var 4) (.var 0)) .nil))) .nil) (.cons (.ret (.ixv 2 (.var 0))) .nil)))
def F_count_from : FnI := ⟨"count_from", ["lengths", "columns", "known", "one", "total", "row"], ["lengths", "columns", "known"], false, B_count_from⟩
abbrev i_count_from : Nat := 72
def B_count_numberings : ISs := (.cons (.expr (.call 30 false (.val (.var 0) .nil))) (.cons (.ret (.call 72 true (.val (.bin .mul (.tup (.cons (.int 0) .nil)) (.ixv 0 (.int 0))) (.val (.ixv 0 (.int 1)) .nil)))) .nil))
def F_count_numberings : FnI := ⟨"count_numberings", ["size"], ["size"], false, B_count_numberings⟩
abbrev i_count_numberings : Nat := 73
def B__law_hooks : ISs := (.cons (.asgF [1, 2] (.val (.int 1) (.val (.int 1) .nil))) (.cons (.for_ (.nm 3) (.rng2 (.int 2) (.bin .add (.bin .mul (.ixv 0 (.int 0)) (.ixv 0 (.int 1))) (.int 1))) (.cons (.set 1 (.bin .mul (.var 1) (.var 3))) .nil)) (.cons (.for_ (.tp (.cons (.nm 4) (.cons (.nm 5) .nil))) (.dat (.call 13 false (.val (.var 0) .nil))) (.cons (.set 2 (.bin .mul (.var 2) (.bin .sub (.bin .sub (.bin .add (.bin .sub (.ixv 0 (.int 0)) (.var 4)) (.ixv 0 (.int 1))) (.var 5)) (.int 1)))) .nil)) (.cons (.ret (.bin .fdiv (.var 1) (.var 2))) .nil))))
def F__law_hooks : FnI := ⟨"_law_hooks", ["_law_size", "_law_top", "_law_under", "_law_number", "_law_row", "_law_column"], ["_law_size"], false, B__law_hooks⟩
abbrev i__law_hooks : Nat := 74
def B_all_numberings : ISs := (.cons (.par 1 2 (.val (.bin .mul (.ixv 0 (.int 0)) (.ixv 0 (.int 1))) (.val (.lst (.cons (.bin .mul (.tup (.cons (.tup .nil) .nil)) (.ixv 0 (.int 0))) .nil)) .nil))) (.cons (.for_ (.nm 3) (.rng2 (.int 1) (.bin .add (.var 1) (.int 1))) (.cons (.setL 4) (.cons (.for_ (.nm 5) (.dat (.var 2)) (.cons (.for_ (.tp (.cons (.nm 6) (.cons (.nm 7) .nil))) (.enm (.var 5)) (.cons (.ifs (.and (.cons (.cmp .lt (.lenv 7) (.ixv 0 (.int 1))) (.cons (.or (.cons (.cmp .eq (.var 6) (.int 0)) (.cons (.cmp .gt (.blt .len (.cons (.ixv 5 (.bin .sub (.var 6) (.int 1))) .nil)) (.lenv 7)) .nil))) .nil))) (.cons (.app 4 (.bin .add (.bin .add (.sl (.var 5) .non (.som (.var 6))) (.tup (.cons (.bin .add (.var 7) (.tup (.cons (.var 3) .nil))) .nil))) (.sl (.var 5) (.som (.bin .add (.var 6) (.int 1))) .non))) .nil) .nil) .nil)) .nil)) (.cons (.set 2 (.var 4)) .nil)))) (.cons (.ret (.blt .sorted (.cons (.var 2) .nil))) .nil)))
def F_all_numberings : FnI := ⟨"all_numberings", ["size", "many", "level", "number", "later", "rows", "row", "own"], ["size"], false, B_all_numberings⟩
abbrev i_all_numberings : Nat := 75
def B_need_few : ISs := (.cons (.ifs (.cmp .gt (.bin .mul (.ixv 0 (.int 0)) (.ixv 0 (.int 1))) (.int 12)) (.cons (.raise .toolarge) .nil) .nil) .nil)
def F_need_few : FnI := ⟨"need_few", ["size"], ["size"], false, B_need_few⟩
abbrev i_need_few : Nat := 76
def B_numbering_at : ISs := (.cons (.expr (.call 30 false (.val (.var 0) .nil))) (.cons (.expr (.call 76 false (.val (.var 0) .nil))) (.cons (.set 2 (.call 75 false (.val (.var 0) .nil))) (.cons (.ifs (.not (.call 0 false (.val (.var 1) (.val (.int 0) (.val (.bin .sub (.lenv 2) (.int 1)) .nil))))) (.cons (.raise .count) .nil) .nil) (.cons (.ret (.ixv 2 (.var 1))) .nil)))))
def F_numbering_at : FnI := ⟨"numbering_at", ["size", "rank", "some"], ["size", "rank"], false, B_numbering_at⟩
abbrev i_numbering_at : Nat := 77
def B_rank_of : ISs := (.cons (.expr (.call 30 false (.val (.var 0) .nil))) (.cons (.ifs (.not (.call 69 false (.val (.var 0) (.val (.var 1) .nil)))) (.cons (.raise .numbering) .nil) .nil) (.cons (.expr (.call 76 false (.val (.var 0) .nil))) (.cons (.ret (.idx (.call 75 false (.val (.var 0) .nil)) (.var 1))) .nil))))
def F_rank_of : FnI := ⟨"rank_of", ["size", "numbering"], ["size", "numbering"], false, B_rank_of⟩
abbrev i_rank_of : Nat := 78
def B_possible_places : ISs := (.cons (.expr (.call 30 false (.val (.var 0) .nil))) (.cons (.par 2 3 (.val (.bin .mul (.ixv 0 (.int 0)) (.ixv 0 (.int 1))) (.lst .nil))) (.cons (.ifs (.not (.call 0 false (.val (.var 1) (.val (.int 1) (.val (.var 2) .nil))))) (.cons (.raise .count) .nil) .nil) (.cons (.for_ (.tp (.cons (.nm 4) (.cons (.nm 5) .nil))) (.dat (.call 19 false (.val (.var 0) .nil))) (.cons (.ifs (.cmp2 .le .le (.bin .mul (.bin .add (.var 4) (.int 1)) (.bin .add (.var 5) (.int 1))) (.var 1) (.bin .sub (.bin .add (.var 2) (.int 1)) (.bin .mul (.bin .sub (.ixv 0 (.int 0)) (.var 4)) (.bin .sub (.ixv 0 (.int 1)) (.var 5))))) (.cons (.app 3 (.tup (.cons (.var 4) (.cons (.var 5) .nil)))) .nil) .nil) .nil)) (.cons (.ret (.blt .tuple (.cons (.var 3) .nil))) .nil)))))
def F_possible_places : FnI := ⟨"possible_places", ["size", "k", "many", "found", "row", "column"], ["size", "k"], false, B_possible_places⟩
abbrev i_possible_places : Nat := 79
def B__law_turn : ISs := (.cons (.set 7 (.ix (.lst (.cons (.str "look") (.cons (.str "look") (.cons (.str "look") (.cons (.str "undo") (.cons (.str "redo") .nil)))))) (.call 8 false (.slo 0 (.val (.int 5) .nil))))) (.cons (.set 8 (.tup (.cons (.call 8 false (.slo 0 (.val (.ixv 2 (.int 0)) .nil))) (.cons (.call 8 false (.slo 0 (.val (.ixv 2 (.int 1)) .nil))) .nil)))) (.cons (.set 9 (.call 40 false (.val (.var 3) (.val (.var 8) (.val (.var 4) .nil))))) (.cons (.set 9 (.ite (.cmp .eq (.call 8 false (.slo 0 (.val (.int 4) .nil))) (.int 0)) (.ix (.lst (.cons (.str "less") (.cons (.str "greater") (.cons (.str "equal") .nil)))) (.call 8 false (.slo 0 (.val (.int 3) .nil)))) (.var 9))) (.cons (.set 10 (.call 80 false (.slo 1 (.val (.var 7) (.val (.tup (.cons (.var 8) (.cons (.var 9) .nil))) .nil))))) (.cons (.ifs (.cmp .eq (.var 7) (.str "look")) (.cons (.set 11 (.bin .add (.var 5) (.tup (.cons (.tup (.cons (.var 8) (.cons (.var 9) .nil))) .nil)))) (.cons (.ifs (.cmp .notn (.call 44 false (.val (.var 11) .nil)) .non) (.cons (.ret (.tup (.cons (.var 10) (.cons (.tup (.cons (.str "error") (.cons (.str "Clash") .nil))) (.cons (.var 5) (.cons (.var 6) .nil)))))) .nil) .nil) (.cons (.ret (.tup (.cons (.var 10) (.cons (.call 55 false (.val (.var 2) (.val (.var 11) .nil))) (.cons (.var 11) (.cons (.lst .nil) .nil)))))) .nil))) .nil) (.cons (.set 12 (.ite (.cmp .eq (.var 7) (.str "undo")) (.blt .list (.cons (.var 5) .nil)) (.var 6))) (.cons (.ifs (.cmp .eq (.var 12) (.lst .nil)) (.cons (.ret (.tup (.cons (.var 10) (.cons (.tup (.cons (.str "error") (.cons (.str "NothingToUndo") .nil))) (.cons (.var 5) (.cons (.var 6) .nil)))))) .nil) .nil) (.cons (.ifs (.cmp .eq (.var 7) (.str "undo")) (.cons (.ret (.tup (.cons (.var 10) (.cons (.ixv 12 (.neg (.int 1))) (.cons (.sl (.var 5) .non (.som (.neg (.int 1)))) (.cons (.bin .add (.var 6) (.lst (.cons (.ixv 12 (.neg (.int 1))) .nil))) .nil)))))) .nil) .nil) (.cons (.ret (.tup (.cons (.var 10) (.cons (.ixv 12 (.neg (.int 1))) (.cons (.bin .add (.var 5) (.tup (.cons (.ixv 12 (.neg (.int 1))) .nil))) (.cons (.sl (.var 6) .non (.som (.neg (.int 1)))) .nil)))))) .nil))))))))))
def F__law_turn : FnI := ⟨"_law_turn", ["_law_dice", "_law_search", "_law_size", "_law_table", "_law_x", "_law_story", "_law_undone", "_law_name", "_law_place", "_law_answer_here", "_law_made", "_law_later", "_law_some"], ["_law_dice", "_law_search", "_law_size", "_law_table", "_law_x", "_law_story", "_law_undone"], false, B__law_turn⟩
abbrev i__law_turn : Nat := 81
def B_written : ISs := (.cons (.ret (.join (.str "; ") (.comp (.nm 1) [("row", 1)] (.dat (.var 0)) .yes (.join (.str " ") (.comp (.nm 2) [("one", 2)] (.dat (.var 1)) .yes (.blt .str (.cons (.var 2) .nil))))))) .nil)
def F_written : FnI := ⟨"written", ["table", "row", "one"], ["table"], false, B_written⟩
abbrev i_written : Nat := 82
def B_format_table : ISs := (.cons (.expr (.call 4 false (.val (.var 0) .nil))) (.cons (.ret (.call 82 false (.val (.var 0) .nil))) .nil))
def F_format_table : FnI := ⟨"format_table", ["table"], ["table"], false, B_format_table⟩
abbrev i_format_table : Nat := 83
def B_number_of : ISs := (.cons (.set 1 (.ite (.cmp .eq (.sl (.var 0) .non (.som (.int 1))) (.str "-")) (.sl (.var 0) (.som (.int 1)) .non) (.var 0))) (.cons (.ifs (.or (.cons (.not (.cmp2 .le .le (.int 1) (.lenv 1) (.int 3))) (.cons (.not (.blt .all (.cons (.comp (.nm 2) [("sign", 2)] (.dat (.var 1)) .yes (.cmp .isin (.var 2) (.str "0123456789"))) .nil))) .nil))) (.cons (.raise .text) .nil) .nil) (.cons (.ret (.blt .int (.cons (.var 0) .nil))) .nil)))
def F_number_of : FnI := ⟨"number_of", ["word", "digits", "sign"], ["word"], false, B_number_of⟩
abbrev i_number_of : Nat := 84
def B_parse_table : ISs := (.cons (.ifs (.not (.isi .str (.var 0))) (.cons (.raise .text) .nil) .nil) (.cons (.set 3 (.blt .tuple (.cons (.comp (.nm 1) [("row", 1)] (.dat (.split (.var 0) (.str "; "))) .yes (.blt .tuple (.cons (.comp (.nm 2) [("word", 2)] (.dat (.split (.var 1) (.str " "))) .yes (.call 84 false (.val (.var 2) .nil))) .nil))) .nil))) (.cons (.ifs (.or (.cons (.not (.call 3 false (.val (.var 3) .nil))) (.cons (.cmp .ne (.call 82 false (.val (.var 3) .nil)) (.var 0)) .nil))) (.cons (.raise .text) .nil) .nil) (.cons (.ret (.var 3)) .nil))))
def F_parse_table : FnI := ⟨"parse_table", ["text", "row", "word", "table"], ["text"], false, B_parse_table⟩
abbrev i_parse_table : Nat := 85
def B__wall : ISs := (.cons (.while_ 100 (.bl true) (.cons (.pass) .nil)) .nil)
def F__wall : FnI := ⟨"_wall", ["k"], ["k"], false, B__wall⟩
abbrev i__wall : Nat := 86
def B__law_right_numberings : ISs := (.cons (.ifs (.cmp .ne (.told (.call 77 false (.val (.tup (.cons (.int 3) (.cons (.int 4) .nil))) (.val (.int 0) .nil)))) (.tup (.cons (.tup (.cons (.int 1) (.cons (.int 2) (.cons (.int 3) (.cons (.int 4) .nil))))) (.cons (.tup (.cons (.int 5) (.cons (.int 6) (.cons (.int 7) (.cons (.int 8) .nil))))) (.cons (.tup (.cons (.int 9) (.cons (.int 10) (.cons (.int 11) (.cons (.int 12) .nil))))) .nil))))) (.cons (.ret (.bl false)) .nil) .nil) (.cons (.set 0 (.tup (.cons (.tup (.cons (.int 1) (.cons (.int 2) (.cons (.int 3) (.cons (.int 4) .nil))))) (.cons (.tup (.cons (.int 5) (.cons (.int 6) (.cons (.int 7) (.cons (.int 8) .nil))))) (.cons (.tup (.cons (.int 9) (.cons (.int 10) (.cons (.int 11) (.cons (.int 12) .nil))))) (.cons (.tup (.cons (.int 13) (.cons (.int 14) (.cons (.int 15) (.cons (.int 16) .nil))))) .nil)))))) (.cons (.ifs (.cmp .ne (.told (.call 77 false (.val (.tup (.cons (.int 4) (.cons (.int 4) .nil))) (.val (.int 0) .nil)))) (.tup (.cons (.str "error") (.cons (.str "TooLarge") .nil)))) (.cons (.ret (.bl false)) .nil) .nil) (.cons (.ifs (.not (.call 70 false (.val (.tup (.cons (.int 4) (.cons (.int 4) .nil))) (.val (.var 0) .nil)))) (.cons (.ret (.bl false)) .nil) .nil) (.cons (.ifs (.cmp .ne (.told (.call 78 false (.val (.tup (.cons (.int 4) (.cons (.int 4) .nil))) (.val (.var 0) .nil)))) (.tup (.cons (.str "error") (.cons (.str "TooLarge") .nil)))) (.cons (.ret (.bl false)) .nil) .nil) (.cons (.ifs (.cmp .ne (.told (.call 78 false (.val (.tup (.cons (.int 3) (.cons (.int 4) .nil))) (.val (.sl (.var 0) .non (.som (.int 3))) .nil)))) (.int 0)) (.cons (.ret (.bl false)) .nil) .nil) (.cons (.ifs (.cmp .ne (.call 73 false (.val (.tup (.cons (.int 4) (.cons (.int 4) .nil))) .nil)) (.int 24024)) (.cons (.ret (.bl false)) .nil) .nil) (.cons (.ifs (.cmp .ne (.ix (.call 77 false (.val (.tup (.cons (.int 4) (.cons (.int 3) .nil))) (.val (.int 461) .nil))) (.int 0)) (.tup (.cons (.int 1) (.cons (.int 5) (.cons (.int 9) .nil))))) (.cons (.ret (.bl false)) .nil) .nil) (.cons (.ifs (.cmp .ne (.told (.call 77 false (.val (.tup (.cons (.int 4) (.cons (.int 3) .nil))) (.val (.int 462) .nil)))) (.tup (.cons (.str "error") (.cons (.str "InvalidCount") .nil)))) (.cons (.ret (.bl false)) .nil) .nil) (.cons (.ret (.bl true)) .nil))))))))))
def F__law_right_numberings : FnI := ⟨"_law_right_numberings", ["_law_whole_numbering"], [], true, B__law_right_numberings⟩
abbrev i__law_right_numberings : Nat := 90
def B__law_right_witnesses : ISs := (.cons (.set 3 (.call 47 false (.val (.var 0) (.val (.bin .mul (.tup (.cons (.var 1) .nil)) (.int 20)) .nil)))) (.cons (.ifs (.or (.cons (.cmp .isn (.var 3) .non) (.cons (.not (.call 49 false (.val (.var 0) (.val (.bin .mul (.tup (.cons (.var 1) .nil)) (.int 20)) (.val (.var 3) .nil))))) (.cons (.not (.cmp2 .le .le (.neg (.int 999)) (.ixv 3 (.int 1)) (.int 999))) .nil)))) (.cons (.ret (.bl false)) .nil) .nil) (.cons (.set 4 (.lst (.cons .non (.cons (.sl (.var 3) .non (.som (.int 1))) (.cons (.tup (.cons (.ixv 3 (.int 0)) (.cons (.int 1000) .nil))) (.cons (.tup (.cons (.ixv 3 (.int 0)) (.cons (.neg (.int 1000)) .nil))) (.cons (.blt .list (.cons (.var 3) .nil)) .nil))))))) (.cons (.set 4 (.bin .add (.var 4) (.lst (.cons (.tup (.cons (.ixv 3 (.int 0)) (.cons (.bl true) .nil))) (.cons (.tup (.cons (.tup (.cons (.tup (.cons (.int 5) .nil)) .nil)) (.cons .non .nil))) .nil))))) (.cons (.for_ (.nm 5) (.dat (.var 4)) (.cons (.ifs (.call 49 false (.val (.var 0) (.val (.bin .mul (.tup (.cons (.var 1) .nil)) (.int 20)) (.val (.var 5) .nil)))) (.cons (.ret (.bl false)) .nil) .nil) .nil)) (.cons (.set 8 (.blt .tuple (.cons (.comp (.nm 6) [("_law_row", 6)] (.rng1 (.ixv 0 (.int 0))) .yes (.blt .tuple (.cons (.comp (.nm 7) [("_law_column", 7)] (.rng1 (.ixv 0 (.int 1))) .yes (.bin .add (.var 6) (.var 7))) .nil))) .nil))) (.cons (.ifs (.cmp .notn (.call 49 false (.val (.var 0) (.val (.tup (.cons (.tup (.cons (.var 2) (.cons (.str "less") .nil))) .nil)) (.val (.tup (.cons (.var 8) (.cons (.int 999) .nil))) .nil)))) (.bl true)) (.cons (.ret (.bl false)) .nil) .nil) (.cons (.ifs (.cmp .notn (.call 49 false (.val (.var 0) (.val (.tup (.cons (.tup (.cons (.tup (.cons (.int 0) (.cons (.int 0) .nil))) (.cons (.str "greater") .nil))) .nil)) (.val (.tup (.cons (.var 8) (.cons (.neg (.int 999)) .nil))) .nil)))) (.bl true)) (.cons (.ret (.bl false)) .nil) .nil) (.cons (.for_ (.nm 9) (.dat (.lst (.cons (.tup (.cons (.ixv 0 (.int 0)) (.cons (.int 0) .nil))) (.cons (.tup (.cons (.int 0) (.cons (.ixv 0 (.int 1)) .nil))) (.cons (.tup (.cons (.int 0) (.cons (.neg (.int 1)) .nil))) (.cons .non (.cons (.tup (.cons (.int 0) (.cons (.bl true) .nil))) .nil))))))) (.cons (.ifs (.cmp .ne (.told (.call 56 false (.val (.var 0) (.val (.tup .nil) (.val (.var 9) .nil))))) (.tup (.cons (.str "error") (.cons (.str "InvalidPlace") .nil)))) (.cons (.ret (.bl false)) .nil) .nil) .nil)) (.cons (.ret (.bl true)) .nil))))))))))
def F__law_right_witnesses : FnI := ⟨"_law_right_witnesses", ["_law_size", "_law_look", "_law_last", "_law_found", "_law_cases", "_law_value", "_law_row", "_law_column", "_law_table", "_law_place"], ["_law_size", "_law_look", "_law_last"], true, B__law_right_witnesses⟩
abbrev i__law_right_witnesses : Nat := 91
def rndI : RndI := ⟨["_law_script", "_law_most", "_law_k"], [("_law_k", 2)], .nm 2, .rng1 (.blt .max (.cons (.int 1) (.cons (.blt .min (.cons (.var 1) (.cons (.lenv 0) .nil))) .nil))), .cons (.call 6 false (.slo 0 (.val (.var 2) .nil))) (.cons (.int 0) .nil)⟩
end Dm
namespace Dm
open PySem PySem.Spec PyProof.Rows L2 LamX
theorem mulOk_r {i j : Int} (h1 : -(2 ^ 64) < j) (h2 : j < 2 ^ 64) : mulOk i j := .inl (.inr ⟨h1, h2⟩)
theorem mul_r (i j : Int) (h : (decide (-(2 ^ 64) < j) && decide (j < 2 ^ 64)) = true) : mulD (.int i) (.int j) = some (.int (i * j)) := by
  simp only [Bool.and_eq_true, decide_eq_true_eq] at h
  show (if mulOk i j then _ else _) = _
  rw [if_pos (mulOk_r h.1 h.2)]
theorem mul_l (i j : Int) (h : (decide (-(2 ^ 64) < i) && decide (i < 2 ^ 64)) = true) : mulD (.int i) (.int j) = some (.int (i * j)) := by
  simp only [Bool.and_eq_true, decide_eq_true_eq] at h
  show (if mulOk i j then _ else _) = _
  rw [if_pos (.inl (.inl ⟨h.1, h.2⟩))]
theorem mod_p (i j : Int) (h : 0 < j) : modD (.int i) (.int j) = some (.int (i % j)) := by
  show (if 0 < j then _ else _) = _
  rw [if_pos h]
theorem div_p (i j : Int) (h : 0 < j) (g : j.natAbs.log2 < 9000) : fdivD (.int i) (.int j) = some (.int (i / j)) := by
  show (if 0 < j ∧ j.natAbs.log2 < 9000 then _ else _) = _
  rw [if_pos ⟨h, g⟩]
section
variable (Δ : Nat → Fn) (G : List (Str × D))
theorem cell_nil (k : Int) : (F__law_cell.fn Δ G).sem [.scr [], .val (.int k)] = .ok (.int (k * 7919)) [.un, .un] := by
  have h := mul_r k 7919 (by decide)
  simp [FnI.fn, runF, F__law_cell, B__law_cell, denSs, denS, den, ifR, nilR, bin2, rdv, B2.den, h, outsL, out1]
theorem add_i (i j : Int) : addD (.int i) (.int j) = some (.int (i + j)) := rfl
theorem sub_i (i j : Int) : subD (.int i) (.int j) = some (.int (i - j)) := rfl
theorem ixD_int (ns : List Int) (i x : Int) (h : atI ns i = some x) : ixD (.list (ns.map PyData.int)) (.int i) = some (.int x) := by
  show atI (ns.map PyData.int) i = _
  unfold atI at h ⊢
  rw [List.length_map]
  cases e : ixN ns.length i with
  | none => rw [e] at h; cases h
  | some j =>
    rw [e] at h
    show (ns.map PyData.int)[j]? = _
    rw [List.getElem?_map, show ns[j]? = some x from h]
    rfl
theorem cell_ns (ns : List Int) (k : Int) (hn : ns ≠ []) (x : Int) (hx : atI ns (k % (ns.length : Int)) = some x) (hl : (ns.length : Int).natAbs.log2 < 9000) : (F__law_cell.fn Δ G).sem [.scr ns, .val (.int k)] = .ok (.int (x + k / ns.length * 104729)) [.un, .un] := by
  have hp : 0 < (ns.length : Int) := by have := List.length_pos_iff.mpr hn; omega
  have h1 := mod_p k ns.length hp
  have h2 := div_p k ns.length hp hl
  have h3 := mul_r (k / ns.length) 104729 (by decide)
  have h4 := ixD_int ns _ x hx
  have e : ns.isEmpty = false := by cases ns <;> first | rfl | exact absurd rfl hn
  simp [FnI.fn, runF, F__law_cell, B__law_cell, denSs, denS, den, ifR, nilR, bin2, rdv, B2.den, h1, h2, h3, outsL, out1, e, ixvR, held, isUn, lenvR, lenS, subS, h4, add_i]
theorem drawn_ok (c k : Int) : ∃ v : Int, 0 ≤ v ∧ (F__law_drawn.fn Δ G).sem [.val (.int c), .val (.int k)] = .ok (.int v) [.un, .un] := by
  have h1 := mul_r c 6364136223846793005 (by decide)
  have h2 := mul_r (k + 1) 1442695040888963407 (by decide)
  let a := (c * 6364136223846793005 + (k + 1) * 1442695040888963407) % 340282366920938463463374607431768211507
  have a0 : 0 ≤ a := Int.emod_nonneg _ (by decide)
  have a1 : a < 340282366920938463463374607431768211507 := Int.emod_lt_of_pos _ (by decide)
  have m1 := mod_p (c * 6364136223846793005 + (k + 1) * 1442695040888963407) 340282366920938463463374607431768211507 (by decide)
  have lg : ∀ (x : Int) (n : Nat), 0 ≤ x → x < 2 ^ n → x.natAbs.log2 < n + 1 := fun x n h0 h => by
    by_cases hz : x.natAbs = 0
    · rw [hz]; simp
    · have : x.natAbs < 2 ^ n := by
        have e : ((x.natAbs : Nat) : Int) = x := Int.natAbs_of_nonneg h0
        have h' : ((x.natAbs : Nat) : Int) < ((2 ^ n : Nat) : Int) := by rw [e]; exact_mod_cast h
        exact_mod_cast h'
      have := (Nat.log2_lt hz).mpr this
      omega
  have la := lg a 129 a0 (Int.lt_trans a1 (by decide))
  have h3 : mulD (.int a) (.int a) = some (.int (a * a)) := by
    show (if mulOk a a then _ else _) = _
    rw [if_pos (.inr (show _ < _ by omega))]
  let b := a * a % 340282366920938463463374607431768211297
  have b0 : 0 ≤ b := Int.emod_nonneg _ (by decide)
  have b1 : b < 340282366920938463463374607431768211297 := Int.emod_lt_of_pos _ (by decide)
  have m2 := mod_p (a * a) 340282366920938463463374607431768211297 (by decide)
  have lb := lg b 129 b0 (Int.lt_trans b1 (by decide))
  have m3 := mod_p b 18446744073709551557 (by decide)
  have d3 := div_p b 18446744073709551557 (by decide) (by decide)
  let e := b % 18446744073709551557 + 1
  let f := b / 18446744073709551557 + 1
  have e0 : 0 ≤ b % 18446744073709551557 := Int.emod_nonneg _ (by decide)
  have e1 : b % 18446744073709551557 < 18446744073709551557 := Int.emod_lt_of_pos _ (by decide)
  have f0 : 0 ≤ b / 18446744073709551557 := Int.ediv_nonneg b0 (by decide)
  have f1 : b / 18446744073709551557 ≤ b := Int.ediv_le_self _ b0
  have le := lg e 65 (by omega) (by show b % 18446744073709551557 + 1 < 2 ^ 65; omega)
  have lf := lg f 129 (by omega) (by show b / 18446744073709551557 + 1 < 2 ^ 129; have : (340282366920938463463374607431768211297 : Int) + 1 < 2 ^ 129 := by decide
                                     omega)
  have h4 : mulD (.int e) (.int f) = some (.int (e * f)) := by
    show (if mulOk e f then _ else _) = _
    rw [if_pos (.inr (show _ < _ by omega))]
  have ef0 : 0 ≤ e * f := Int.mul_nonneg (by omega) (by omega)
  have lef := lg (e * f) (65 + 129) ef0 (by
    rw [Int.pow_add]
    have he : e ≤ 2 ^ 65 := by show b % 18446744073709551557 + 1 ≤ 2 ^ 65; omega
    have hf : f < 2 ^ 129 := by show b / 18446744073709551557 + 1 < 2 ^ 129; have : (340282366920938463463374607431768211297 : Int) + 1 < 2 ^ 129 := by decide
                                omega
    have hp : (0 : Int) < 2 ^ 65 := by decide
    have hf0 : 0 ≤ f := by omega
    calc e * f ≤ 2 ^ 65 * f := Int.mul_le_mul_of_nonneg_right he hf0
      _ < 2 ^ 65 * 2 ^ 129 := Int.mul_lt_mul_of_pos_left hf hp)
  have h5 : mulD (.int (e * f)) (.int b) = some (.int (e * f * b)) := by
    show (if mulOk (e * f) b then _ else _) = _
    rw [if_pos (.inr (show _ < _ by omega))]
  have m4 := mod_p (e * f * b) 340282366920938463463374607431768211507 (by decide)
  refine ⟨e * f * b % 340282366920938463463374607431768211507, Int.emod_nonneg _ (by decide), ?_⟩
  simp only [a, b, e, f] at h3 m2 m3 d3 h4 h5 m4 ⊢
  simp [FnI.fn, runF, F__law_drawn, B__law_drawn, denSs, denS, den, setR, bin2, rdv, B2.den, h1, h2, m1, h3, m2, m3, d3, h4, h5, m4, outsL, out1, add_i]
end
end Dm
namespace Dm
open PySem PySem.Spec PyProof.Rows L2 LamX
section
variable (Δ : Nat → Fn) (G : List (Str × D))
/-- a call with its meaning known -/
theorem callD_ok {f : Fn} {nw : Bool} {as : List Ar} {ρ ρ' : Rho} {ss ss' : List Sl} {d : D} (h1 : argSls ρ as = some ss) (h2 : nodupB (muts as) = true) (h3 : f.ar = ss.length + (if nw then 1 else 0)) (h4 : f.sem (ss ++ nwS nw) = .ok d ss') (h5 : wback ρ as ss' = some ρ') : callD f nw as ρ = .ok d ρ' := by
  unfold callD
  rw [h1]
  simp [h2, h3, h4, h5]
theorem roll_ok {Δ' : Nat → Fn} {G' : List (Str × D)} (hd : Δ 7 = F__law_drawn.fn Δ' G') (c k m : Int) (hm : 0 < m) (hl : m.natAbs.log2 < 9000) : ∃ v c' k' : Int, (0 ≤ v ∧ v < m) ∧ (F__law_roll.fn Δ G).sem [.own true [.int c, .int k], .val (.int m)] = .ok (.int v) [.own true [.int c', .int k'], .un] := by
  have hp : powD (.int 10) (.int 18) = some (.int 1000000000000000000) := rfl
  by_cases h : (1000000000000000000 : Int) ≤ c
  · have hg : C2.den .ge (.int c) (.int 1000000000000000000) = some (.bool true) := congrArg (fun b => some (PyData.bool b)) (decide_eq_true h)
    have m1 := mod_p c m hm
    have d1 := div_p c m hm hl
    refine ⟨c % m, c / m, k, ⟨Int.emod_nonneg _ (by omega), Int.emod_lt_of_pos _ hm⟩, ?_⟩
    simp [FnI.fn, runF, F__law_roll, B__law_roll, denSs, denS, den, ifR, bin2, rdv, B2.den, hp, hg, m1, d1, outsL, out1, ixvR, held, isUn, subS, ixD, atI, ixN, setR, stR, stS]
  · have hg : C2.den .ge (.int c) (.int 1000000000000000000) = some (.bool false) := congrArg (fun b => some (PyData.bool b)) (decide_eq_false h)
    obtain ⟨v, hv, e⟩ := drawn_ok Δ' G' c (k + 1)
    have m1 := mod_p (v / 8) m hm
    have d1 := div_p v 8 (by decide) (by decide)
    refine ⟨v / 8 % m, c, k + 1, ⟨Int.emod_nonneg _ (by omega), Int.emod_lt_of_pos _ hm⟩, ?_⟩
    have cd : ∀ ρ, callD (Δ 7) false [.dat (.int c), .dat (.int (k + 1))] ρ = .ok (.int v) ρ := fun ρ => by
      rw [hd]
      exact callD_ok (ss := [.val (.int c), .val (.int (k + 1))]) rfl rfl rfl e rfl
    simp [FnI.fn, runF, F__law_roll, B__law_roll, denSs, denS, den, ifR, bin2, rdv, B2.den, hp, hg, m1, d1, outsL, out1, ixvR, held, isUn, subS, ixD, atI, ixN, setR, stR, stS, add_i, callR, denA, consG, datR, cd]
end
end Dm
namespace Dm
open PySem PySem.Spec PyProof.Rows L2 LamX
/-- the roll is at hand -/
structure DiceOk (Δ : Nat → Fn) : Prop where
  ar : (Δ i__law_roll).ar = 2
  roll : ∀ c k m : Int, 0 < m → m.natAbs.log2 < 9000 → ∃ v c' k' : Int, (0 ≤ v ∧ v < m) ∧ (Δ i__law_roll).sem [.own true [.int c, .int k], .val (.int m)] = .ok (.int v) [.own true [.int c', .int k'], .un]
theorem dice_of {Δ Δ1 Δ2 : Nat → Fn} {G1 G2 : List (Str × D)} (h : Δ i__law_roll = F__law_roll.fn Δ1 G1) (h1 : Δ1 i__law_drawn = F__law_drawn.fn Δ2 G2) : DiceOk Δ :=
  ⟨by rw [h]; rfl, fun c k m hm hl => by rw [h]; exact roll_ok Δ1 G1 h1 c k m hm hl⟩
theorem roll_call {Δ : Nat → Fn} (D : DiceOk Δ) {ρ : Rho} {j : Nat} {fx : Bool} {c k m : Int} (hj : ρ[j]? = some (.own fx [.int c, .int k])) (hm : 0 < m) (hl : m.natAbs.log2 < 9000) :
    ∃ v c' k' : Int, (0 ≤ v ∧ v < m) ∧ callD (Δ i__law_roll) false [.slo j, .dat (.int m)] ρ = .ok (.int v) (ρ.set j (.own fx [.int c', .int k'])) := by
  obtain ⟨v, c', k', hv, e⟩ := D.roll c k m hm hl
  refine ⟨v, c', k', hv, callD_ok (ss := [.own true [.int c, .int k], .val (.int m)]) ?_ rfl D.ar e ?_⟩
  · simp [argSls, argSl, hj]
  · simp [wback, hj, reown]
section
variable (Δ : Nat → Fn) (G : List (Str × D))
theorem anysize_ok (D : DiceOk Δ) (c k m : Int) (hm : 0 < m) (hl : m.natAbs.log2 < 9000) : ∃ a b c' k' : Int, (1 ≤ a ∧ a ≤ m) ∧ (1 ≤ b ∧ b ≤ m) ∧ (F__law_any_size.fn Δ G).sem [.own true [.int c, .int k], .val (.int m)] = .ok (.tuple [.int a, .int b]) [.own true [.int c', .int k'], .un] := by
  obtain ⟨v, c1, k1, hv, e1⟩ := roll_call D (ρ := [.own true [.int c, .int k], .val (.int m)]) (j := 0) (fx := true) rfl hm hl
  obtain ⟨u, c2, k2, hu, e2⟩ := roll_call D (ρ := [.own true [.int c1, .int k1], .val (.int m)]) (j := 0) (fx := true) rfl hm hl
  refine ⟨1 + v, 1 + u, c2, k2, ⟨by omega, by omega⟩, ⟨by omega, by omega⟩, ?_⟩
  simp only [List.set_cons_zero] at e1 e2
  simp [FnI.fn, runF, F__law_any_size, B__law_any_size, denSs, denS, den, dens, tupR, consR, bin2, rdv, B2.den, outsL, out1, add_i, callR, denA, consG, datR, sloR, argSl, e1, e2]
end
/-! ### the rounds -/
theorem cell_any (Δ : Nat → Fn) (G : List (Str × D)) (ns : List Int) (k : Nat) (hn : ns.length ≤ 63) : (F__law_cell.fn Δ G).sem [.scr ns, .val (.int (k : Int))] = .ok (.int (cellI ns k)) [.un, .un] := by
  unfold cellI
  by_cases h : ns = []
  · subst h
    rw [if_pos rfl]
    exact cell_nil Δ G k
  · rw [if_neg h]
    have hp := List.length_pos_iff.mpr h
    have hlt := Nat.mod_lt k hp
    have e1 : ((k : Int) % (ns.length : Int)) = ((k % ns.length : Nat) : Int) := by omega
    have e2 : ((k : Int) / (ns.length : Int)) = ((k / ns.length : Nat) : Int) := by omega
    have ha : atI ns ((k : Int) % (ns.length : Int)) = some (ns[k % ns.length]?.getD 0) := by
      rw [e1]
      unfold atI ixN
      rw [if_pos (by omega), if_pos (by omega)]
      simp only [Option.bind_some, Int.toNat_natCast]
      rw [List.getElem?_eq_getElem hlt]
      rfl
    have := cell_ns Δ G ns k h _ ha (by
      have : (ns.length : Int).natAbs = ns.length := rfl
      rw [this]
      have := Nat.log2_lt (n := ns.length) (k := 9000) (by omega)
      exact this.mpr (Nat.lt_of_le_of_lt hn (by decide)))
    rw [this, e2]
end Dm
namespace Dm
open PySem PySem.Spec PyProof.Rows L2 LamX
theorem cell_call {Δ Δ1 : Nat → Fn} {G1 : List (Str × D)} (h : Δ i__law_cell = F__law_cell.fn Δ1 G1) {ρ : Rho} {j : Nat} {ns : List Int} (hj : ρ[j]? = some (.scr ns)) (k : Nat) (hn : ns.length ≤ 63) :
    callD (Δ i__law_cell) false [.slo j, .dat (.int (k : Int))] ρ = .ok (.int (cellI ns k)) (ρ.set j (.scr ns)) := by
  refine callD_ok (ss := [.scr ns, .val (.int (k : Int))]) ?_ rfl (by rw [h]; rfl) (by rw [h]; exact cell_any Δ1 G1 ns k hn) ?_
  · simp [argSls, argSl, hj]
  · simp [wback, hj, reown]
theorem rnd_turns {Δ Δ1 : Nat → Fn} {G G1 : List (Str × D)} (h : Δ i__law_cell = F__law_cell.fn Δ1 G1) (ns : List Int) (m : Int) (hn : ns.length ≤ 63) : ∀ ks : List Nat,
    compL (.nm 2) [2] none (lstR (dens Δ G rndI.es)) (ks.map fun (k : Nat) => PyData.int (0 + (k : Int))) [.scr ns, .val (.int m), .un] = .ok (ks.map fun k => PyData.list [.int (cellI ns k), .int 0]) [.scr ns, .val (.int m), .un]
  | [] => rfl
  | k :: ks => by
    have ih := rnd_turns (G := G) h ns m hn ks
    have e := cell_call h (ρ := [.scr ns, .val (.int m), .val (.int (k : Int))]) (j := 0) rfl k hn
    simp only [List.set_cons_zero] at e
    rw [List.map_cons, List.map_cons]
    unfold compL
    simp only [bindP, List.set_cons_succ, List.set_cons_zero, rndI, lstR, dens, consR, den, callR, denA, consG, datR, sloR, argSl, rdv, Int.zero_add] at ih ⊢
    simp [e, nox, wiped, ih]
theorem rnd_plain {Δ Δ1 : Nat → Fn} {G G1 : List (Str × D)} (h : Δ i__law_cell = F__law_cell.fn Δ1 G1) (ns : List Int) (m : Int) (hc : condI ns m) : ∃ ds ρ1 ρe, denI Δ G rndI.it (pad rndI.N.length [.scr ns, .val (.int m)]) = .ok ds ρ1 ∧ ds.length ≤ 1000000 ∧ freeB ρ1 (rndI.own.map (·.2)) = true ∧
    compL rndI.p (rndI.own.map (·.2)) none (lstR (dens Δ G rndI.es)) ds (wiped ρ1 (rndI.own.map (·.2))) = .ok (lsI (cellsI ns m)) ρe := by
  obtain ⟨h1, h2, h3⟩ := hc
  have hN : (max 1 (min m (ns.length : Int))).toNat = max 1 (min m.toNat ns.length) := by omega
  have hs : smallI (max 1 (min m (ns.length : Int))) = true := by
    unfold smallI
    simp only [Bool.and_eq_true, decide_eq_true_eq]
    omega
  refine ⟨intsD 0 (max 1 (min m.toNat ns.length)), [.scr ns, .val (.int m), .un], [.scr ns, .val (.int m), .un], ?_, ?_, rfl, ?_⟩
  · simp [rndI, pad, denI, rng1R, den, dens, bltR, consR, rdv, lenvR, lenS, Bt.den, hs, hN]
  · unfold intsD
    rw [List.length_map, List.length_range]
    omega
  · have e := rnd_turns (G := G) h ns m h1 (List.range (max 1 (min m.toNat ns.length)))
    show compL (.nm 2) [2] none (lstR (dens Δ G rndI.es)) (intsD 0 _) [.scr ns, .val (.int m), .un] = _
    unfold intsD
    rw [e]
    unfold cellsI lsI
    simp [List.map_map, Function.comp_def]
end Dm
namespace Dm
open PySem PySem.Spec PyProof.Rows L2 LamX
/-- any size is at hand -/
structure SizeOk (Δ : Nat → Fn) : Prop where
  ar : (Δ i__law_any_size).ar = 2
  size : ∀ c k m : Int, 0 < m → m.natAbs.log2 < 9000 → ∃ a b c' k' : Int, (1 ≤ a ∧ a ≤ m) ∧ (1 ≤ b ∧ b ≤ m) ∧ (Δ i__law_any_size).sem [.own true [.int c, .int k], .val (.int m)] = .ok (.tuple [.int a, .int b]) [.own true [.int c', .int k'], .un]
theorem size_of {Δ Δ1 : Nat → Fn} {G1 : List (Str × D)} (h : Δ i__law_any_size = F__law_any_size.fn Δ1 G1) (D : DiceOk Δ1) : SizeOk Δ :=
  ⟨by rw [h]; rfl, fun c k m hm hl => by rw [h]; exact anysize_ok Δ1 G1 D c k m hm hl⟩
theorem size_call {Δ : Nat → Fn} (D : SizeOk Δ) {ρ : Rho} {j : Nat} {fx : Bool} {c k m : Int} (hj : ρ[j]? = some (.own fx [.int c, .int k])) (hm : 0 < m) (hl : m.natAbs.log2 < 9000) :
    ∃ a b c' k' : Int, (1 ≤ a ∧ a ≤ m) ∧ (1 ≤ b ∧ b ≤ m) ∧ callD (Δ i__law_any_size) false [.slo j, .dat (.int m)] ρ = .ok (.tuple [.int a, .int b]) (ρ.set j (.own fx [.int c', .int k'])) := by
  obtain ⟨a, b, c', k', ha, hb, e⟩ := D.size c k m hm hl
  refine ⟨a, b, c', k', ha, hb, callD_ok (ss := [.own true [.int c, .int k], .val (.int m)]) ?_ rfl D.ar e ?_⟩
  · simp [argSls, argSl, hj]
  · simp [wback, hj, reown]
def restOf : ISs → ISs
  | .cons _ r => r
  | .nil => .nil
def nxB (n : Nat) : SR → Bool
  | .nx ρ => ρ.length == n
  | _ => false
theorem nx_of {n : Nat} {r : SR} (h : nxB n r = true) : ∃ ρ', r = .nx ρ' ∧ ρ'.length = n := by
  cases r with
  | nx ρ => exact ⟨ρ, rfl, by simpa [nxB] using h⟩
  | _ => cases h
/-- the law's first statement: a size -/
theorem size_st {Δ : Nat → Fn} {G : List (Str × D)} (D : SizeOk Δ) (L : Nat) (hL : 3 ≤ L) (c m : Int) (hm : 0 < m) (hl : m.natAbs.log2 < 9000) : ∃ a b c' k' : Int, (1 ≤ a ∧ a ≤ m) ∧ (1 ≤ b ∧ b ≤ m) ∧
    denS Δ G (.set 2 (.call i__law_any_size false (.slo 1 (.val (.int m) .nil)))) (lawRho L c) = .nx ([.un, .own false [.int c', .int k'], .val (.tuple [.int a, .int b])] ++ List.replicate (L - 3) .un) := by
  obtain ⟨n, rfl⟩ : ∃ n, L = n + 3 := ⟨L - 3, by omega⟩
  have e0 : lawRho (n + 3) c = .un :: .own false [.int c, .int 0] :: .un :: List.replicate n .un := rfl
  obtain ⟨a, b, c', k', ha, hb, e⟩ := size_call D (ρ := lawRho (n + 3) c) (j := 1) (fx := false) (c := c) (k := 0) (m := m) rfl hm hl
  refine ⟨a, b, c', k', ha, hb, ?_⟩
  rw [e0] at e ⊢
  simp only [List.set_cons_succ, List.set_cons_zero] at e
  simp [denS, den, setR, callR, denA, consG, datR, sloR, argSl, e]
end Dm
namespace Dm
open PySem PySem.Spec PyProof.Rows L2 LamX
/-! ### calls with values alone -/
structure Rt (n : Nat) (d : D) (r : SR) : Prop where
  ex : ∃ ρ : Rho, r = .rt d ρ ∧ n ≤ ρ.length
structure Nx (n : Nat) (r : SR) : Prop where
  ex : ∃ ρ : Rho, r = .nx ρ ∧ n ≤ ρ.length
structure Xc (n : Nat) (c : Exn) (r : SR) : Prop where
  ex : ∃ ρ : Rho, r = .ex c ρ ∧ n ≤ ρ.length
@[simp] theorem Rt_rt (n : Nat) (d d' : D) (ρ : Rho) : Rt n d (.rt d' ρ) = (d' = d ∧ n ≤ ρ.length) := propext ⟨fun ⟨_, h, l⟩ => by cases h; exact ⟨rfl, l⟩, fun ⟨h, l⟩ => ⟨_, by rw [h], l⟩⟩
@[simp] theorem Rt_nx (n : Nat) (d : D) (ρ : Rho) : Rt n d (.nx ρ) = False := propext ⟨(fun ⟨_, h, _⟩ => nomatch h), False.elim⟩
@[simp] theorem Nx_nx (n : Nat) (ρ : Rho) : Nx n (.nx ρ) = (n ≤ ρ.length) := propext ⟨fun ⟨_, h, l⟩ => by cases h; exact l, fun l => ⟨_, rfl, l⟩⟩
@[simp] theorem Xc_ex (n : Nat) (c c' : Exn) (ρ : Rho) : Xc n c (.ex c' ρ) = (c' = c ∧ n ≤ ρ.length) := propext ⟨fun ⟨_, h, l⟩ => by cases h; exact ⟨rfl, l⟩, fun ⟨h, l⟩ => ⟨_, by rw [h], l⟩⟩
theorem Rt.of {n : Nat} {d : D} {r : SR} {ρ : Rho} (h : r = .rt d ρ) (l : n ≤ ρ.length) : Rt n d r := ⟨ρ, h, l⟩
theorem outsL_vals : ∀ (ds : List D) (ρ : Rho), ds.length ≤ ρ.length → outsL (ds.map .val) ρ = some (List.replicate ds.length .un)
  | [], _, _ => rfl
  | _ :: _, [], h => by simp at h
  | d :: ds, t :: ρ, h => by
    have ih := outsL_vals ds ρ (by simpa using h)
    have e : out1 (.val d) t = some .un := by cases t <;> rfl
    simp [outsL, ih, e, List.replicate_succ]
theorem argSls_dats (ρ : Rho) : ∀ ds : List D, argSls ρ (ds.map .dat) = some (ds.map .val)
  | [] => rfl
  | d :: ds => by simp [argSls, argSl, argSls_dats ρ ds]
theorem muts_dats : ∀ ds : List D, muts (ds.map .dat) = []
  | [] => rfl
  | d :: ds => by simp [muts, muts_dats ds]
theorem wback_dats (ρ : Rho) : ∀ (ds : List D) (ss : List Sl), ds.length ≤ ss.length → wback ρ (ds.map .dat) ss = some ρ
  | [], ss, _ => by cases ss <;> rfl
  | _ :: _, [], h => by simp at h
  | d :: ds, _ :: ss, h => by
    have := wback_dats ρ ds ss (by simpa using h)
    simpa [wback] using this
section
variable {F : FnI} {Δ Δ1 : Nat → Fn} {G : List (Str × D)} {i : Nat} {ds : List D} {d : D} {c : Exn}
theorem callV {f : Fn} (ha : f.ar = ds.length) (ρ : Rho) : callD f false (ds.map .dat) ρ = match f.sem (ds.map .val) with
    | .ok d ss' => match wback ρ (ds.map .dat) ss' with
      | some ρ' => .ok d ρ'
      | none => .bad
    | .exc c ss' => match wback ρ (ds.map .dat) ss' with
      | some ρ' => .exc c ρ'
      | none => .bad
    | .bad => .bad := by
  unfold callD
  rw [argSls_dats, muts_dats]
  simp only [nodupB, ha, nwS, List.length_map, List.append_nil, Bool.false_eq_true, if_false, Nat.add_zero, beq_self_eq_true, Bool.and_self, if_true]
  all_goals rfl
theorem call_rt (h : Δ i = F.fn Δ1 G) (ha : F.ps.length = ds.length) (hb : Rt ds.length d (denSs Δ1 G F.body (ds.map .val ++ List.replicate (F.N.length - ds.length) .un))) (ρ : Rho) : callD (Δ i) false (ds.map .dat) ρ = .ok d ρ := by
  rw [callV (by rw [h]; exact ha), h]
  unfold FnI.fn runF
  dsimp only
  rw [List.length_map]
  obtain ⟨ρ', e, hl⟩ := hb
  rw [e]
  dsimp only
  rw [outsL_vals _ _ hl]
  dsimp only
  rw [wback_dats _ _ _ (by simp)]
theorem call_nx (h : Δ i = F.fn Δ1 G) (ha : F.ps.length = ds.length) (hb : Nx ds.length (denSs Δ1 G F.body (ds.map .val ++ List.replicate (F.N.length - ds.length) .un))) (ρ : Rho) : callD (Δ i) false (ds.map .dat) ρ = .ok .none ρ := by
  rw [callV (by rw [h]; exact ha), h]
  unfold FnI.fn runF
  dsimp only
  rw [List.length_map]
  obtain ⟨ρ', e, hl⟩ := hb
  rw [e]
  dsimp only
  rw [outsL_vals _ _ hl]
  dsimp only
  rw [wback_dats _ _ _ (by simp)]
theorem call_xc (h : Δ i = F.fn Δ1 G) (ha : F.ps.length = ds.length) (hb : Xc ds.length c (denSs Δ1 G F.body (ds.map .val ++ List.replicate (F.N.length - ds.length) .un))) (ρ : Rho) : callD (Δ i) false (ds.map .dat) ρ = .exc c ρ := by
  rw [callV (by rw [h]; exact ha), h]
  unfold FnI.fn runF
  dsimp only
  rw [List.length_map]
  obtain ⟨ρ', e, hl⟩ := hb
  rw [e]
  dsimp only
  rw [outsL_vals _ _ hl]
  dsimp only
  rw [wback_dats _ _ _ (by simp)]
end
/-! ### comprehensions -/
section
variable {α : Type} {p : Pt} {vs : List Nat} {it : Rho → Res (List D)} {t elt : Rho → Res D}
theorem compL_map (g f : α → D) (b b' : α → Rho) (ρ : Rho) : ∀ xs : List α, (∀ x ∈ xs, bindP p (g x) ρ = some (b x) ∧ elt (b x) = .ok (f x) (b' x) ∧ wiped (b' x) vs = ρ) → compL p vs none elt (xs.map g) ρ = .ok (xs.map f) ρ
  | [], _ => rfl
  | x :: xs, h => by
    obtain ⟨h1, h2, h3⟩ := h x List.mem_cons_self
    have ih := compL_map g f b b' ρ xs fun y hy => h y (List.mem_cons_of_mem _ hy)
    rw [List.map_cons, compL, h1]
    simp [h2, h3, nox, ih]
theorem compL_filter (g f : α → D) (q : α → Bool) (b b1 b' : α → Rho) (ρ : Rho) : ∀ xs : List α, (∀ x ∈ xs, bindP p (g x) ρ = some (b x) ∧ t (b x) = .ok (.bool (q x)) (b1 x) ∧ wiped (b1 x) vs = ρ ∧ (q x = true → elt (b1 x) = .ok (f x) (b' x) ∧ wiped (b' x) vs = ρ)) →
    compL p vs (some t) elt (xs.map g) ρ = .ok ((xs.filter q).map f) ρ
  | [], _ => rfl
  | x :: xs, h => by
    obtain ⟨h1, h2, h4, h3⟩ := h x List.mem_cons_self
    have ih := compL_filter g f q b b1 b' ρ xs fun y hy => h y (List.mem_cons_of_mem _ hy)
    rw [List.map_cons, compL, h1]
    cases hq : q x with
    | true =>
      rw [hq] at h2
      obtain ⟨h5, h6⟩ := h3 hq
      simp [h2, h5, h6, nox, ih, hq]
    | false =>
      rw [hq] at h2
      simp [h2, h4, nox, ih, hq]
theorem compR_map (xs : List α) (g f : α → D) (b b' : α → Rho) {ρ ρ1 : Rho} (hit : it ρ = .ok (xs.map g) ρ1) (hl : xs.length ≤ 1000000) (hf : freeB ρ1 vs = true) (hu : unwiped ρ1 (wiped ρ1 vs) vs = ρ1)
    (h : ∀ x ∈ xs, bindP p (g x) (wiped ρ1 vs) = some (b x) ∧ elt (b x) = .ok (f x) (b' x) ∧ wiped (b' x) vs = wiped ρ1 vs) : compR p vs it none elt ρ = .ok (.list (xs.map f)) ρ1 := by
  unfold compR
  rw [hit, Res.bind_ok, if_pos (by simp [hl, hf]), compL_map g f b b' _ xs h]
  simp [nox, hu]
theorem compR_filter (xs : List α) (g f : α → D) (q : α → Bool) (b b1 b' : α → Rho) {ρ ρ1 : Rho} (hit : it ρ = .ok (xs.map g) ρ1) (hl : xs.length ≤ 1000000) (hf : freeB ρ1 vs = true) (hu : unwiped ρ1 (wiped ρ1 vs) vs = ρ1)
    (h : ∀ x ∈ xs, bindP p (g x) (wiped ρ1 vs) = some (b x) ∧ t (b x) = .ok (.bool (q x)) (b1 x) ∧ wiped (b1 x) vs = wiped ρ1 vs ∧ (q x = true → elt (b1 x) = .ok (f x) (b' x) ∧ wiped (b' x) vs = wiped ρ1 vs)) :
    compR p vs it (some t) elt ρ = .ok (.list ((xs.filter q).map f)) ρ1 := by
  unfold compR
  rw [hit, Res.bind_ok, if_pos (by simp [hl, hf]), compL_filter g f q b b1 b' _ xs h]
  simp [nox, hu]
end
section
variable {α : Type} {v u : Nat} {it : Rho → Res (List D)} {t elt : Rho → Res D} {ρ : Rho}
theorem setUn (hv : ρ[v]? = some .un) : ρ.set v .un = ρ := by
  apply List.ext_getElem?
  intro i
  rw [List.getElem?_set]
  split
  · subst_vars
    split
    · exact hv.symm
    · rename_i h; rw [List.getElem?_eq_none (by omega)] at hv; cases hv
  · rfl
theorem free1 (hv : ρ[v]? = some .un) : freeB ρ [v] = true := by
  simp [freeB, hv, Sl.isO]
/-- a comprehension over one fresh name -/
theorem comp_nm (xs : List α) (g f : α → D) (hv : ρ[v]? = some .un) (hit : it ρ = .ok (xs.map g) ρ) (hl : xs.length ≤ 1000000) (h : ∀ x ∈ xs, elt (ρ.set v (.val (g x))) = .ok (f x) (ρ.set v (.val (g x)))) : compR (.nm v) [v] it none elt ρ = .ok (.list (xs.map f)) ρ := by
  have e : wiped ρ [v] = ρ := setUn hv
  refine compR_map (vs := [v]) (ρ1 := ρ) xs g f (fun x => ρ.set v (.val (g x))) (fun x => ρ.set v (.val (g x))) hit hl (free1 hv) ?_ (fun x hx => ⟨?_, h x hx, ?_⟩)
  · rw [e]
    show ρ.set v (ρ[v]?.getD .un) = ρ
    rw [hv]
    exact setUn hv
  · rw [e]; rfl
  · rw [e]
    show (ρ.set v _).set v .un = ρ
    rw [List.set_set]
    exact setUn hv
theorem comp_nmF (xs : List α) (g f : α → D) (q : α → Bool) (hv : ρ[v]? = some .un) (hit : it ρ = .ok (xs.map g) ρ) (hl : xs.length ≤ 1000000) (ht : ∀ x ∈ xs, t (ρ.set v (.val (g x))) = .ok (.bool (q x)) (ρ.set v (.val (g x)))) (h : ∀ x ∈ xs, q x = true → elt (ρ.set v (.val (g x))) = .ok (f x) (ρ.set v (.val (g x)))) :
    compR (.nm v) [v] it (some t) elt ρ = .ok (.list ((xs.filter q).map f)) ρ := by
  have e : wiped ρ [v] = ρ := setUn hv
  have w : ∀ x, wiped (ρ.set v (.val (g x))) [v] = wiped ρ [v] := fun x => by
    rw [e]
    show (ρ.set v _).set v .un = ρ
    rw [List.set_set]
    exact setUn hv
  refine compR_filter (vs := [v]) (ρ1 := ρ) xs g f q (fun x => ρ.set v (.val (g x))) (fun x => ρ.set v (.val (g x))) (fun x => ρ.set v (.val (g x))) hit hl (free1 hv) ?_ (fun x hx => ⟨?_, ht x hx, w x, fun z => ⟨h x hx z, w x⟩⟩)
  · rw [e]
    show ρ.set v (ρ[v]?.getD .un) = ρ
    rw [hv]
    exact setUn hv
  · rw [e]; rfl
/-- a comprehension over a pair of fresh names -/
theorem comp_tp (xs : List α) (ga gb f : α → D) (hvu : v ≠ u) (hv : ρ[v]? = some .un) (hu : ρ[u]? = some .un) (hit : it ρ = .ok (xs.map fun x => .tuple [ga x, gb x]) ρ) (hl : xs.length ≤ 1000000) (h : ∀ x ∈ xs, elt ((ρ.set v (.val (ga x))).set u (.val (gb x))) = .ok (f x) ((ρ.set v (.val (ga x))).set u (.val (gb x)))) :
    compR (.tp (.cons (.nm v) (.cons (.nm u) .nil))) [v, u] it none elt ρ = .ok (.list (xs.map f)) ρ := by
  have e : wiped ρ [v, u] = ρ := by
    show (ρ.set u .un).set v .un = ρ
    rw [setUn hu, setUn hv]
  refine compR_map (vs := [v, u]) (ρ1 := ρ) xs _ f (fun x => (ρ.set v (.val (ga x))).set u (.val (gb x))) (fun x => (ρ.set v (.val (ga x))).set u (.val (gb x))) hit hl ?_ ?_ (fun x hx => ⟨?_, h x hx, ?_⟩)
  · simp [freeB, hv, hu, Sl.isO]
  · rw [e]
    show (ρ.set u (ρ[u]?.getD .un)).set v (ρ[v]?.getD .un) = ρ
    rw [hv, hu]
    show (ρ.set u .un).set v .un = ρ
    rw [setUn hu, setUn hv]
  · rw [e]; rfl
  · rw [e]
    show (((ρ.set v _).set u _).set u .un).set v .un = ρ
    rw [List.set_set, List.set_comm _ _ (Ne.symm hvu), List.set_set, List.set_comm _ _ hvu, setUn hu, setUn hv]
theorem comp_tpF (xs : List α) (ga gb f : α → D) (q : α → Bool) (hvu : v ≠ u) (hv : ρ[v]? = some .un) (hu : ρ[u]? = some .un) (hit : it ρ = .ok (xs.map fun x => .tuple [ga x, gb x]) ρ) (hl : xs.length ≤ 1000000) (ht : ∀ x ∈ xs, t ((ρ.set v (.val (ga x))).set u (.val (gb x))) = .ok (.bool (q x)) ((ρ.set v (.val (ga x))).set u (.val (gb x)))) (h : ∀ x ∈ xs, q x = true → elt ((ρ.set v (.val (ga x))).set u (.val (gb x))) = .ok (f x) ((ρ.set v (.val (ga x))).set u (.val (gb x)))) :
    compR (.tp (.cons (.nm v) (.cons (.nm u) .nil))) [v, u] it (some t) elt ρ = .ok (.list ((xs.filter q).map f)) ρ := by
  have e : wiped ρ [v, u] = ρ := by
    show (ρ.set u .un).set v .un = ρ
    rw [setUn hu, setUn hv]
  have w : ∀ x, wiped ((ρ.set v (.val (ga x))).set u (.val (gb x))) [v, u] = wiped ρ [v, u] := fun x => by
    rw [e]
    show (((ρ.set v _).set u _).set u .un).set v .un = ρ
    rw [List.set_set, List.set_comm _ _ (Ne.symm hvu), List.set_set, List.set_comm _ _ hvu, setUn hu, setUn hv]
  refine compR_filter (vs := [v, u]) (ρ1 := ρ) xs _ f q (fun x => (ρ.set v (.val (ga x))).set u (.val (gb x))) (fun x => (ρ.set v (.val (ga x))).set u (.val (gb x))) (fun x => (ρ.set v (.val (ga x))).set u (.val (gb x))) hit hl ?_ ?_ (fun x hx => ⟨?_, ht x hx, w x, fun z => ⟨h x hx z, w x⟩⟩)
  · simp [freeB, hv, hu, Sl.isO]
  · rw [e]
    show (ρ.set u (ρ[u]?.getD .un)).set v (ρ[v]?.getD .un) = ρ
    rw [hv, hu]
    show (ρ.set u .un).set v .un = ρ
    rw [setUn hu, setUn hv]
  · rw [e]; rfl
end
/-! ### loops -/
section
variable {α : Type} {p : Pt} {body : Rho → SR}
theorem forL_inv (g : α → D) (I : Nat → Rho → Prop) (xs : List α) : ∀ (k : Nat) (ys : List α) (ρ : Rho), xs.drop k = ys → I k ρ → (∀ n x ρ, xs[n]? = some x → I n ρ → ∃ ρ1 ρ2, bindP p (g x) ρ = some ρ1 ∧ body ρ1 = .nx ρ2 ∧ I (n + 1) ρ2) → ∃ ρ', forL p body (ys.map g) ρ = .nx ρ' ∧ I (k + ys.length) ρ'
  | k, [], ρ, _, h0, _ => ⟨ρ, rfl, h0⟩
  | k, y :: ys, ρ, hd, h0, hs => by
    have hy : xs[k]? = some y := by
      have := congrArg (fun l => l[0]?) hd
      simpa using this
    obtain ⟨ρ1, ρ2, e1, e2, e3⟩ := hs k y ρ hy h0
    have hd' : xs.drop (k + 1) = ys := by
      have := congrArg List.tail hd
      simpa using this
    obtain ⟨ρ', e4, e5⟩ := forL_inv g I xs (k + 1) ys ρ2 hd' e3 hs
    refine ⟨ρ', ?_, by rw [List.length_cons]; rwa [show k + (ys.length + 1) = k + 1 + ys.length by omega]⟩
    rw [List.map_cons, forL, e1]
    simp [e2, e4]
theorem for_inv (g : α → D) (I : Nat → Rho → Prop) (xs : List α) (ρ : Rho) (h0 : I 0 ρ) (hs : ∀ n x ρ, xs[n]? = some x → I n ρ → ∃ ρ1 ρ2, bindP p (g x) ρ = some ρ1 ∧ body ρ1 = .nx ρ2 ∧ I (n + 1) ρ2) : ∃ ρ', forL p body (xs.map g) ρ = .nx ρ' ∧ I xs.length ρ' := by
  obtain ⟨ρ', e, h⟩ := forL_inv g I xs 0 xs ρ rfl h0 hs
  exact ⟨ρ', e, by rwa [Nat.zero_add] at h⟩
/-- a loop that returns at the first one found -/
theorem for_find (g : α → D) (q : α → Bool) (res : α → D) (I : Rho → Prop) (xs : List α) (ρ : Rho) (h0 : I ρ)
    (hs : ∀ x ∈ xs, ∀ ρ, I ρ → ∃ ρ1, bindP p (g x) ρ = some ρ1 ∧ if q x = true then ∃ ρ2, body ρ1 = .rt (res x) ρ2 ∧ I ρ2 else ∃ ρ2, body ρ1 = .nx ρ2 ∧ I ρ2) :
    ∃ ρ', I ρ' ∧ forL p body (xs.map g) ρ = match xs.find? q with
      | some x => .rt (res x) ρ'
      | none => .nx ρ' := by
  induction xs generalizing ρ with
  | nil => exact ⟨ρ, h0, rfl⟩
  | cons x xs ih =>
    obtain ⟨ρ1, e1, e2⟩ := hs x List.mem_cons_self ρ h0
    rw [List.map_cons, forL, e1, List.find?_cons]
    cases hq : q x with
    | true =>
      rw [if_pos hq] at e2
      obtain ⟨ρ2, e3, e4⟩ := e2
      exact ⟨ρ2, e4, by simp [e3]⟩
    | false =>
      rw [if_neg (by simp [hq])] at e2
      obtain ⟨ρ2, e3, e4⟩ := e2
      obtain ⟨ρ', e5, e6⟩ := ih ρ2 e4 fun y hy => hs y (List.mem_cons_of_mem _ hy)
      exact ⟨ρ', e5, by simp [e3, e6]⟩
end
end Dm
namespace Dm
open PySem PySem.Spec PyProof.Rows L2 LamX
/-! ### tables -/
def isWh (d : D) (lo hi : Int) : Bool := match d with
  | .int i => decide (lo ≤ i) && decide (i ≤ hi)
  | _ => false
def SpWhole (Δ : Nat → Fn) : Prop := ∀ d lo hi ρ, callD (Δ i_is_whole) false [.dat d, .dat (.int lo), .dat (.int hi)] ρ = .ok (.bool (isWh d lo hi)) ρ
theorem sp_whole {Δ Δ1 : Nat → Fn} {G : List (Str × D)} (h : Δ i_is_whole = F_is_whole.fn Δ1 G) : SpWhole Δ := fun d lo hi ρ => by
  refine call_rt (ds := [d, .int lo, .int hi]) h rfl ?_ ρ
  cases d <;> simp [F_is_whole, B_is_whole, denSs, denS, den, denAnd, isiR, rdv, andB, un1, notD, isiD, chain2, C2.den, icmp, Res.to, SR.seq, isWh]
  rename_i i
  by_cases h1 : lo ≤ i <;> simp [h1]
def risB (ns : List Int) : Bool := (List.range (ns.length - 1)).all fun i => decide (ns.getD i 0 < ns.getD (i + 1) 0)
def SpRising (Δ : Nat → Fn) : Prop := ∀ (ns : List Int) ρ, ns.length ≤ 1000 → callD (Δ i_is_rising) false [.dat (.tuple (ns.map .int))] ρ = .ok (.bool (risB ns)) ρ ∧ callD (Δ i_is_rising) false [.dat (.list (ns.map .int))] ρ = .ok (.bool (risB ns)) ρ
theorem atI_nat {α : Type} (xs : List α) (i : Nat) : atI xs (i : Int) = xs[i]? := by
  unfold atI ixN
  by_cases h : i < xs.length
  · rw [if_pos (by omega), if_pos (by omega)]; rfl
  · rw [if_pos (by omega), if_neg (by omega)]
    simp [List.getElem?_eq_none (by omega : xs.length ≤ i)]
theorem intsD_zero (n : Nat) : intsD 0 n = (List.range n).map fun i : Nat => PyData.int (i : Int) := by
  unfold intsD
  simp
@[simp] theorem blsOf_mapF {α : Type} (q : α → Bool) : ∀ xs : List α, blsOf (xs.map fun x => PyData.bool (q x)) = some (xs.map q)
  | [] => rfl
  | x :: xs => by simp [blsOf, blsOf_mapF q xs]
@[simp] theorem intsOf_mapF {α : Type} (q : α → Int) : ∀ xs : List α, intsOf (xs.map fun x => PyData.int (q x)) = some (xs.map q)
  | [] => rfl
  | x :: xs => by simp [intsOf, intsOf_mapF q xs]
theorem smallI_le {i : Int} (h : -1000000 ≤ i) (h2 : i ≤ 1000000) : smallI i = true := by
  unfold smallI
  simp only [Bool.and_eq_true, decide_eq_true_eq]
  omega
theorem ris_body (Δ : Nat → Fn) (G : List (Str × D)) (ns : List Int) (d : D) (hd : d = .tuple (ns.map .int) ∨ d = .list (ns.map .int)) (hn : ns.length ≤ 1000) : Rt 1 (.bool (risB ns)) (denSs Δ G B_is_rising [.val d, .un]) := by
  have hlen : Bt.len.den [d] = some (.int (ns.length : Int)) := by rcases hd with rfl | rfl <;> simp [Bt.den]
  have hix : ∀ i : Int, ixD d (.int i) = (atI ns i).map PyData.int := fun i => by
    have : ∀ i, atI (ns.map PyData.int) i = (atI ns i).map PyData.int := fun i => by
      unfold atI
      rw [List.length_map]
      cases ixN ns.length i <;> simp
    rcases hd with rfl | rfl <;> exact this i
  unfold B_is_rising
  simp only [denSs, denS, den, dens, denT, List.map_cons, List.map_nil]
  unfold bltR consR
  rw [compR_map (ρ1 := [.val d, .un]) (List.range (ns.length - 1)) (fun i => .int (i : Int)) (fun i => .bool (decide (ns.getD i 0 < ns.getD (i + 1) 0))) (fun i => [.val d, .val (.int (i : Int))]) (fun i => [.val d, .val (.int (i : Int))]) ?hit (by rw [List.length_range]; omega) rfl rfl (fun i hi => ⟨rfl, ?he, rfl⟩)]
  case hit =>
    have hs : smallI ((ns.length : Int) - 1) = true := smallI_le (by omega) (by omega)
    have ht : ((ns.length : Int) - 1).toNat = ns.length - 1 := by omega
    simp [denI, rng1R, den, bin2, lenvR, lenS, hlen, B2.den, sub_i, hs, intsD_zero, ht]
  case he =>
    have hi : i < ns.length - 1 := List.mem_range.mp hi
    have h1 : ns[i]? = some (ns.getD i 0) := by simp [List.getD, List.getElem?_eq_getElem (show i < ns.length by omega)]
    have h2 : ns[i + 1]? = some (ns.getD (i + 1) 0) := by simp [List.getD, List.getElem?_eq_getElem (show i + 1 < ns.length by omega)]
    have e2 : ((i : Int) + 1) = ((i + 1 : Nat) : Int) := rfl
    simp only [bin2, ixvR, held, isUn, rdv, List.getElem?_cons_zero, List.getElem?_cons_succ, Bool.not_false, if_true, Res.bind_ok, subS, hix, atI_nat, h1, B2.den, add_i, lift_some, Option.map_some]
    rw [e2, atI_nat, h2]
    rfl
  simp [Bt.den, Res.to, SR.seq, risB]
theorem sp_rising {Δ Δ1 : Nat → Fn} {G : List (Str × D)} (h : Δ i_is_rising = F_is_rising.fn Δ1 G) : SpRising Δ := fun ns ρ hn =>
  ⟨call_rt (ds := [.tuple (ns.map .int)]) h rfl (ris_body Δ1 G ns _ (.inl rfl) hn) ρ, call_rt (ds := [.list (ns.map .int)]) h rfl (ris_body Δ1 G ns _ (.inr rfl) hn) ρ⟩
end Dm
namespace Dm
open PySem PySem.Spec PyProof.Rows L2 LamX
section
variable {Δ : Nat → Fn} {G : List (Str × D)} {a : IS} {r x y : ISs} {c : IE} {ρ ρ1 ρ2 : Rho} {d : D} {b : Bool}
theorem ss_nil : denSs Δ G .nil ρ = .nx ρ := rfl
theorem ss_cons : denSs Δ G (.cons a r) ρ = (denS Δ G a ρ).seq (denSs Δ G r) := rfl
theorem ss_nx (h : denS Δ G a ρ = .nx ρ1) : denSs Δ G (.cons a r) ρ = denSs Δ G r ρ1 := by
  rw [ss_cons, h]; rfl
theorem ss_rt (h : denS Δ G a ρ = .rt d ρ1) : denSs Δ G (.cons a r) ρ = .rt d ρ1 := by
  rw [ss_cons, h]; rfl
theorem s_if (h : den Δ G c ρ = .ok (.bool b) ρ1) : denS Δ G (.ifs c x y) ρ = if b then denSs Δ G x ρ1 else denSs Δ G y ρ1 := by
  show (den Δ G c ρ).to _ = _
  rw [h]
  cases b <;> rfl
theorem s_if_f (h : den Δ G c ρ = .ok (.bool false) ρ1) : denS Δ G (.ifs c x .nil) ρ = .nx ρ1 := by
  rw [s_if h]; rfl
theorem s_set {i : Nat} {e : IE} (h : den Δ G e ρ = .ok d ρ1) : denS Δ G (.set i e) ρ = .nx (ρ1.set i (.val d)) := by
  show (den Δ G e ρ).to _ = _
  rw [h]; rfl
theorem s_ret {e : IE} (h : den Δ G e ρ = .ok d ρ1) : denS Δ G (.ret e) ρ = .rt d ρ1 := by
  show (den Δ G e ρ).to _ = _
  rw [h]; rfl
end
theorem eqv_int (i j : Int) : PyData.eqv (.int i) (.int j) = decide (i = j) := by
  simp only [PyData.eqv]
  by_cases h : i = j <;> simp [h]
@[simp] theorem eqD_int (i j : Int) : eqD (.int i) (.int j) = some (.bool (decide (i = j))) := by
  simp [eqD, PyData.depth, eqv_int]
@[simp] theorem neD_int (i j : Int) : neD (.int i) (.int j) = some (.bool (!decide (i = j))) := by
  simp [neD, PyData.depth, eqv_int]
def intOf : D → Int
  | .int i => i
  | _ => 0
def aeB (d : D) (many : Int) : Bool := match d with
  | .tuple ds => decide ((ds.length : Int) = many) && (ds.all (fun x => isWh x (-999) 999) && risB (ds.map intOf))
  | _ => false
theorem wh_int {d : D} {lo hi : Int} (h : isWh d lo hi = true) : d = .int (intOf d) := by
  cases d <;> first | rfl | cases h
theorem wh_ints {ds : List D} {lo hi : Int} (h : ds.all (fun x => isWh x lo hi) = true) : ds = (ds.map intOf).map PyData.int := by
  rw [List.map_map]
  conv => lhs; rw [← List.map_id ds]
  exact List.map_congr_left fun d hd => wh_int (List.all_eq_true.mp h d hd)
def SpEntries (Δ : Nat → Fn) : Prop := ∀ d many ρ, many ≤ 1000 → callD (Δ i_are_entries) false [.dat d, .dat (.int many)] ρ = .ok (.bool (aeB d many)) ρ
theorem all_id_map {α : Type} (q : α → Bool) (xs : List α) : (xs.map q).all id = xs.all q := by
  rw [List.all_map]; rfl
theorem sp_entries {Δ Δ1 : Nat → Fn} {G : List (Str × D)} (h : Δ i_are_entries = F_are_entries.fn Δ1 G) (c1 : SpWhole Δ1) (c2 : SpRising Δ1) : SpEntries Δ := fun d many ρ hm => by
  refine call_rt (ds := [d, .int many]) h rfl ?_ ρ
  show Rt 2 _ (denSs Δ1 G B_are_entries [.val d, .val (.int many), .un])
  unfold B_are_entries
  cases d with
  | tuple ds =>
    by_cases hl : (ds.length : Int) = many
    · have hc : compR (.nm 2) [2] (itR (rdv 0)) none (callR (Δ1 0) false (consG (datR (rdv 2)) (consG (datR (un1 negD fun ρ => .ok (.int 999) ρ)) (consG (datR fun ρ => .ok (.int 999) ρ) fun ρ => .ok [] ρ)))) [.val (.tuple ds), .val (.int many), .un] = .ok (.list (ds.map fun x => .bool (isWh x (-999) 999))) [.val (.tuple ds), .val (.int many), .un] := by
        refine compR_map (ρ1 := [.val (.tuple ds), .val (.int many), .un]) ds (fun d => d) _ (fun d => [.val (.tuple ds), .val (.int many), .val d]) (fun d => [.val (.tuple ds), .val (.int many), .val d]) ?_ (by omega) rfl rfl (fun x hx => ⟨rfl, ?_, rfl⟩)
        · simp [itR, rdv, itsD]
        · have := c1 x (-999) 999
          simp [callR, consG, datR, rdv, un1, negD, this]
      cases hq : ds.all fun x => isWh x (-999) 999 with
      | true =>
        have e := c2 (ds.map intOf) [.val (.tuple ds), .val (.int many), .un] (by rw [List.length_map]; omega)
        rw [← wh_ints hq] at e
        simp [denSs, denS, den, dens, denAnd, denOr, denO, denA, denI, denT, denF, setR, ifR, bin2, un1, notD, chain2, andB, orB, iteB, tupR, lstR, consR, consG, datR, sloR, argSl, bltR, isiR, rdv, ixvR, held, isUn, subS, lenvR, lenS, callR, SR.seq, Res.to, B2.den, add_i, sub_i, C2.den, icmp, negD, itR, itsD, hc, isiD, Bt.den, hl, all_id_map, hq, e.1, aeB]
      | false => simp [denSs, denS, den, dens, denAnd, denOr, denO, denA, denI, denT, denF, setR, ifR, bin2, un1, notD, chain2, andB, orB, iteB, tupR, lstR, consR, consG, datR, sloR, argSl, bltR, isiR, rdv, ixvR, held, isUn, subS, lenvR, lenS, callR, SR.seq, Res.to, B2.den, add_i, sub_i, C2.den, icmp, negD, itR, itsD, hc, isiD, Bt.den, hl, all_id_map, hq, aeB]
    · simp [denSs, denS, den, dens, denAnd, denOr, denO, denA, denI, denT, denF, setR, ifR, bin2, un1, notD, chain2, andB, orB, iteB, tupR, lstR, consR, consG, datR, sloR, argSl, bltR, isiR, rdv, ixvR, held, isUn, subS, lenvR, lenS, callR, SR.seq, Res.to, B2.den, add_i, sub_i, C2.den, icmp, negD, itR, itsD, isiD, Bt.den, hl, aeB]
  | _ => simp [denSs, denS, den, dens, denAnd, denOr, denO, denA, denI, denT, denF, setR, ifR, bin2, un1, notD, chain2, andB, orB, iteB, tupR, lstR, consR, consG, datR, sloR, argSl, bltR, isiR, rdv, ixvR, held, isUn, subS, lenvR, lenS, callR, SR.seq, Res.to, B2.den, add_i, sub_i, C2.den, icmp, negD, itR, itsD, isiD, aeB]
/-! ### is_table -/
def intAt (r : D) (j : Nat) : Int := match r with
  | .tuple es => intOf (es.getD j .none)
  | _ => 0
def isTab (d : D) : Bool := match d with
  | .tuple ds => (decide (1 ≤ ds.length) && decide (ds.length ≤ 4)) && (match (ds[0]? : Option D) with
    | some (PyData.tuple es) => (decide (1 ≤ es.length) && decide (es.length ≤ 4)) && (ds.all (fun r => aeB r es.length) && (List.range es.length).all fun j => risB (ds.map fun r => intAt r j))
    | _ => false)
  | _ => false
theorem atI_zero {α : Type} (xs : List α) : atI xs 0 = xs[0]? := atI_nat xs 0
def SpTable (Δ : Nat → Fn) : Prop := ∀ d ρ, callD (Δ i_is_table) false [.dat d] ρ = .ok (.bool (isTab d)) ρ
theorem ae_at {r : D} {m : Nat} (h : aeB r m = true) {j : Nat} (hj : j < m) : ixD r (.int j) = some (.int (intAt r j)) := by
  cases r with
  | tuple es =>
    simp only [aeB, Bool.and_eq_true, decide_eq_true_eq] at h
    obtain ⟨h1, h2, _⟩ := h
    have hl : j < es.length := by omega
    show atI es (j : Int) = _
    rw [atI_nat, List.getElem?_eq_getElem hl]
    have := List.all_eq_true.mp h2 _ (List.getElem_mem hl)
    rw [wh_int this]
    simp [intAt, List.getElem?_eq_getElem hl]
  | _ => cases h
theorem rng1_ok {m : Rho → Res D} {ρ ρ1 : Rho} {n : Nat} (h : m ρ = .ok (.int n) ρ1) (hn : n ≤ 1000000) : rng1R m ρ = .ok ((List.range n).map fun i : Nat => PyData.int (i : Int)) ρ1 := by
  have hs : smallI (n : Int) = true := smallI_le (by omega) (by omega)
  unfold rng1R
  rw [h, Res.bind_ok]
  show (if smallI (n : Int) = true then _ else _) = _
  rw [if_pos hs, intsD_zero]
  rfl
section
variable {Δ1 : Nat → Fn} {G : List (Str × D)} {ds es : List D}
theorem tab_c1 (c3 : SpEntries Δ1) (hl : ds.length ≤ 4) (hm : es.length ≤ 4) : compR (.nm 2) [2] (itR (rdv 0)) none (callR (Δ1 2) false (consG (datR (rdv 2)) (consG (datR (rdv 1)) fun ρ => .ok [] ρ))) [.val (.tuple ds), .val (.int es.length), .un, .un] = .ok (.list (ds.map fun x => .bool (aeB x es.length))) [.val (.tuple ds), .val (.int es.length), .un, .un] := by
  refine compR_map (vs := [2]) (ρ1 := [.val (.tuple ds), .val (.int es.length), .un, .un]) ds (fun d => d) _ (fun d => [.val (.tuple ds), .val (.int es.length), .val d, .un]) (fun d => [.val (.tuple ds), .val (.int es.length), .val d, .un]) ?_ (Nat.le_trans hl (by decide)) rfl rfl (fun x hx => ⟨rfl, ?_, rfl⟩)
  · simp [itR, rdv, itsD]
  · have := c3 x es.length
    simp [callR, consG, datR, rdv, this _ (by omega : (es.length : Int) ≤ 1000)]
theorem tab_c2 (c2 : SpRising Δ1) (hl : ds.length ≤ 4) (hm : es.length ≤ 4) (hq : ds.all (fun x => aeB x es.length) = true) : compR (.nm 3) [3] (rng1R (rdv 1)) none (callR (Δ1 1) false (consG (datR (compR (.nm 2) [2] (itR (rdv 0)) none (ixvR 2 (rdv 3)))) fun ρ => .ok [] ρ)) [.val (.tuple ds), .val (.int es.length), .un, .un] = .ok (.list ((List.range es.length).map fun j => .bool (risB (ds.map fun r => intAt r j)))) [.val (.tuple ds), .val (.int es.length), .un, .un] := by
  refine compR_map (vs := [3]) (ρ1 := [.val (.tuple ds), .val (.int es.length), .un, .un]) (List.range es.length) (fun i => .int (i : Int)) _ (fun i => [.val (.tuple ds), .val (.int es.length), .un, .val (.int (i : Int))]) (fun i => [.val (.tuple ds), .val (.int es.length), .un, .val (.int (i : Int))]) ?_ (by rw [List.length_range]; exact Nat.le_trans hm (by decide)) rfl rfl (fun i hi => ⟨rfl, ?_, rfl⟩)
  · exact rng1_ok rfl (by omega)
  · have hi := List.mem_range.mp hi
    have hc3 : compR (.nm 2) [2] (itR (rdv 0)) none (ixvR 2 (rdv 3)) [.val (.tuple ds), .val (.int es.length), .un, .val (.int (i : Int))] = .ok (.list (ds.map fun r => .int (intAt r i))) [.val (.tuple ds), .val (.int es.length), .un, .val (.int (i : Int))] := by
      refine compR_map (vs := [2]) (ρ1 := [.val (.tuple ds), .val (.int es.length), .un, .val (.int (i : Int))]) ds (fun d => d) _ (fun d => [.val (.tuple ds), .val (.int es.length), .val d, .val (.int (i : Int))]) (fun d => [.val (.tuple ds), .val (.int es.length), .val d, .val (.int (i : Int))]) ?_ (Nat.le_trans hl (by decide)) rfl rfl (fun x hx => ⟨rfl, ?_, rfl⟩)
      · simp [itR, rdv, itsD]
      · have := ae_at (List.all_eq_true.mp hq x hx) hi
        simp [ixvR, held, isUn, rdv, subS, this]
    have e := (c2 (ds.map fun r => intAt r i) [.val (.tuple ds), .val (.int es.length), .un, .val (.int (i : Int))] (by rw [List.length_map]; omega)).2
    rw [List.map_map] at e
    show (consG _ _ _).bind _ = _
    unfold consG datR
    rw [hc3]
    simp only [Res.bind_ok]
    exact e
theorem tab_yes1 {bs : List Bool} (hc2 : compR (.nm 3) [3] (rng1R (rdv 1)) none (callR (Δ1 1) false (consG (datR (compR (.nm 2) [2] (itR (rdv 0)) none (ixvR 2 (rdv 3)))) fun ρ => .ok [] ρ)) [.val (.tuple ds), .val (.int es.length), .un, .un] = .ok (.list (bs.map .bool)) [.val (.tuple ds), .val (.int es.length), .un, .un]) : Rt 1 (.bool (bs.all id)) (denSs Δ1 G (.cons (.ret (.blt .all (.cons (.comp (.nm 3) [("at", 3)] (.rng1 (.var 1)) .yes (.call 1 false (.val (.comp (.nm 2) [("row", 2)] (.dat (.var 0)) .yes (.ixv 2 (.var 3))) .nil))) .nil))) .nil) [.val (.tuple ds), .val (.int es.length), .un, .un]) := by
  simp only [denSs, denS, den, dens, denA, denT, denI, List.map_cons, List.map_nil]
  unfold bltR consR
  rw [hc2]
  simp [Bt.den, Res.to, SR.seq]
theorem tab_yes0 {bs : List Bool} (h0 : ds[0]? = some (.tuple es)) (h1 : 1 ≤ ds.length) (hl : ds.length ≤ 4) (hm1 : 1 ≤ es.length) (hm2 : es.length ≤ 4) (hq : ds.all (fun x => aeB x es.length) = true) (hc : compR (.nm 2) [2] (itR (rdv 0)) none (callR (Δ1 2) false (consG (datR (rdv 2)) (consG (datR (rdv 1)) fun ρ => .ok [] ρ))) [.val (.tuple ds), .val (.int es.length), .un, .un] = .ok (.list (ds.map fun x => .bool (aeB x es.length))) [.val (.tuple ds), .val (.int es.length), .un, .un])
    (hc2 : compR (.nm 3) [3] (rng1R (rdv 1)) none (callR (Δ1 1) false (consG (datR (compR (.nm 2) [2] (itR (rdv 0)) none (ixvR 2 (rdv 3)))) fun ρ => .ok [] ρ)) [.val (.tuple ds), .val (.int es.length), .un, .un] = .ok (.list (bs.map .bool)) [.val (.tuple ds), .val (.int es.length), .un, .un]) : Rt 1 (.bool (bs.all id)) (denSs Δ1 G B_is_table [.val (.tuple ds), .un, .un, .un]) := by
  have hl' : (ds.length : Int) ≤ 4 := by omega
  have h1' : (1 : Int) ≤ ds.length := by omega
  have hm1' : (1 : Int) ≤ es.length := by omega
  have hm2' : (es.length : Int) ≤ 4 := by omega
  unfold B_is_table
  rw [ss_nx (ρ1 := [.val (.tuple ds), .un, .un, .un]) ?a1]
  case a1 => simp [denSs, denS, den, dens, denAnd, denOr, denO, denA, denI, denT, denF, setR, ifR, bin2, un1, notD, chain2, andB, orB, iteB, tupR, lstR, consR, consG, datR, sloR, argSl, bltR, isiR, rdv, ixvR, held, isUn, subS, lenvR, lenS, callR, SR.seq, Res.to, B2.den, add_i, sub_i, C2.den, icmp, negD, itR, itsD, isiD, Bt.den, hl', h1', hm1', hm2', ixD, atI_zero, h0]
  rw [ss_nx (ρ1 := [.val (.tuple ds), .val (.int es.length), .un, .un]) ?a2]
  case a2 => simp [denSs, denS, den, dens, denAnd, denOr, denO, denA, denI, denT, denF, setR, ifR, bin2, un1, notD, chain2, andB, orB, iteB, tupR, lstR, consR, consG, datR, sloR, argSl, bltR, isiR, rdv, ixvR, held, isUn, subS, lenvR, lenS, callR, SR.seq, Res.to, B2.den, add_i, sub_i, C2.den, icmp, negD, itR, itsD, isiD, Bt.den, hl', h1', hm1', hm2', ixD, atI_zero, h0]
  rw [ss_nx (ρ1 := [.val (.tuple ds), .val (.int es.length), .un, .un]) ?a3]
  case a3 => simp [denSs, denS, den, dens, denAnd, denOr, denO, denA, denI, denT, denF, setR, ifR, bin2, un1, notD, chain2, andB, orB, iteB, tupR, lstR, consR, consG, datR, sloR, argSl, bltR, isiR, rdv, ixvR, held, isUn, subS, lenvR, lenS, callR, SR.seq, Res.to, B2.den, add_i, sub_i, C2.den, icmp, negD, itR, itsD, isiD, Bt.den, hl', h1', hm1', hm2', ixD, atI_zero, h0, hc, all_id_map, hq]
  exact tab_yes1 hc2
theorem isTab_eq (h0 : ds[0]? = some (.tuple es)) (h1 : 1 ≤ ds.length) (hl : ds.length ≤ 4) (hm1 : 1 ≤ es.length) (hm2 : es.length ≤ 4) : isTab (.tuple ds) = (ds.all (fun x => aeB x es.length) && (List.range es.length).all fun j => risB (ds.map fun r => intAt r j)) := by
  show ((decide (1 ≤ ds.length) && decide (ds.length ≤ 4)) && _) = _
  rw [h0, decide_eq_true h1, decide_eq_true hl]
  show (true && ((decide (1 ≤ es.length) && decide (es.length ≤ 4)) && _)) = _
  rw [decide_eq_true hm1, decide_eq_true hm2]
  rfl
theorem tab_yes (c2 : SpRising Δ1) (c3 : SpEntries Δ1) (h0 : ds[0]? = some (.tuple es)) (h1 : 1 ≤ ds.length) (hl : ds.length ≤ 4) (hm1 : 1 ≤ es.length) (hm2 : es.length ≤ 4) (hq : ds.all (fun x => aeB x es.length) = true) : Rt 1 (.bool (isTab (.tuple ds))) (denSs Δ1 G B_is_table [.val (.tuple ds), .un, .un, .un]) := by
  have ht := isTab_eq h0 h1 hl hm1 hm2
  rw [hq, Bool.true_and, ← all_id_map] at ht
  have hc2 := tab_c2 c2 hl hm2 hq
  rw [show ((List.range es.length).map fun j => PyData.bool (risB (ds.map fun r => intAt r j))) = (((List.range es.length).map fun j => risB (ds.map fun r => intAt r j)).map PyData.bool) by rw [List.map_map]; rfl] at hc2
  rw [ht]
  exact tab_yes0 h0 h1 hl hm1 hm2 hq (tab_c1 c3 hl hm2) hc2
theorem tab_no1 (c2 : SpRising Δ1) (c3 : SpEntries Δ1) (h0 : ds[0]? = some (.tuple es)) (h1 : 1 ≤ ds.length) (hl : ds.length ≤ 4) (hm1 : 1 ≤ es.length) (hm2 : es.length ≤ 4) (hq : ds.all (fun x => aeB x es.length) = false) : Rt 1 (.bool (isTab (.tuple ds))) (denSs Δ1 G B_is_table [.val (.tuple ds), .un, .un, .un]) := by
  have hl' : (ds.length : Int) ≤ 4 := by omega
  have h1' : (1 : Int) ≤ ds.length := by omega
  have hm1' : (1 : Int) ≤ es.length := by omega
  have hm2' : (es.length : Int) ≤ 4 := by omega
  have hc := tab_c1 c3 hl hm2
  have ht : isTab (.tuple ds) = false := by
    simp only [isTab, h0, hq]
    simp
  rw [ht]
  unfold B_is_table
  simp [denSs, denS, den, dens, denAnd, denOr, denO, denA, denI, denT, denF, setR, ifR, bin2, un1, notD, chain2, andB, orB, iteB, tupR, lstR, consR, consG, datR, sloR, argSl, bltR, isiR, rdv, ixvR, held, isUn, subS, lenvR, lenS, callR, SR.seq, Res.to, B2.den, add_i, sub_i, C2.den, icmp, negD, itR, itsD, isiD, Bt.den, hl', h1', hm1', hm2', ixD, atI_zero, h0, hc, all_id_map, hq]
theorem tab_no2 (h0 : ds[0]? = some (.tuple es)) (h1 : 1 ≤ ds.length) (hl : ds.length ≤ 4) (hm : ¬ (1 ≤ es.length ∧ es.length ≤ 4)) : Rt 1 (.bool (isTab (.tuple ds))) (denSs Δ1 G B_is_table [.val (.tuple ds), .un, .un, .un]) := by
  have hl' : (ds.length : Int) ≤ 4 := by omega
  have h1' : (1 : Int) ≤ ds.length := by omega
  have ht : isTab (.tuple ds) = false := by
    simp only [isTab, h0]
    by_cases h2 : 1 ≤ es.length
    · have h3 : ¬ es.length ≤ 4 := fun z => hm ⟨h2, z⟩
      simp [h3]
    · simp [h2]
  have hm' : 1 ≤ (es.length : Int) → ¬ ((es.length : Int) ≤ 4) := fun h => by omega
  rw [ht]
  unfold B_is_table
  by_cases h2 : 1 ≤ (es.length : Int)
  · simp [denSs, denS, den, dens, denAnd, denOr, denO, denA, denI, denT, denF, setR, ifR, bin2, un1, notD, chain2, andB, orB, iteB, tupR, lstR, consR, consG, datR, sloR, argSl, bltR, isiR, rdv, ixvR, held, isUn, subS, lenvR, lenS, callR, SR.seq, Res.to, B2.den, add_i, sub_i, C2.den, icmp, negD, itR, itsD, isiD, Bt.den, hl', h1', h2, hm' h2, ixD, atI_zero, h0]
  · simp [denSs, denS, den, dens, denAnd, denOr, denO, denA, denI, denT, denF, setR, ifR, bin2, un1, notD, chain2, andB, orB, iteB, tupR, lstR, consR, consG, datR, sloR, argSl, bltR, isiR, rdv, ixvR, held, isUn, subS, lenvR, lenS, callR, SR.seq, Res.to, B2.den, add_i, sub_i, C2.den, icmp, negD, itR, itsD, isiD, Bt.den, hl', h1', h2, ixD, atI_zero, h0]
theorem tab_no3 (hl : ¬ (1 ≤ ds.length ∧ ds.length ≤ 4)) : Rt 1 (.bool (isTab (.tuple ds))) (denSs Δ1 G B_is_table [.val (.tuple ds), .un, .un, .un]) := by
  have ht : isTab (.tuple ds) = false := by
    simp only [isTab]
    by_cases h2 : 1 ≤ ds.length
    · have h3 : ¬ ds.length ≤ 4 := fun z => hl ⟨h2, z⟩
      simp [h3]
    · simp [h2]
  have hm' : 1 ≤ (ds.length : Int) → ¬ ((ds.length : Int) ≤ 4) := fun h => by omega
  rw [ht]
  unfold B_is_table
  by_cases h2 : 1 ≤ (ds.length : Int)
  · simp [denSs, denS, den, dens, denAnd, denOr, denO, denA, denI, denT, denF, setR, ifR, bin2, un1, notD, chain2, andB, orB, iteB, tupR, lstR, consR, consG, datR, sloR, argSl, bltR, isiR, rdv, ixvR, held, isUn, subS, lenvR, lenS, callR, SR.seq, Res.to, B2.den, add_i, sub_i, C2.den, icmp, negD, itR, itsD, isiD, Bt.den, h2, hm' h2]
  · simp [denSs, denS, den, dens, denAnd, denOr, denO, denA, denI, denT, denF, setR, ifR, bin2, un1, notD, chain2, andB, orB, iteB, tupR, lstR, consR, consG, datR, sloR, argSl, bltR, isiR, rdv, ixvR, held, isUn, subS, lenvR, lenS, callR, SR.seq, Res.to, B2.den, add_i, sub_i, C2.den, icmp, negD, itR, itsD, isiD, Bt.den, h2]
theorem tab_no4 {r0 : D} (h0 : ds[0]? = some r0) (hr : isiD .tuple r0 = false) (h1 : 1 ≤ ds.length) (hl : ds.length ≤ 4) : Rt 1 (.bool (isTab (.tuple ds))) (denSs Δ1 G B_is_table [.val (.tuple ds), .un, .un, .un]) := by
  have hl' : (ds.length : Int) ≤ 4 := by omega
  have h1' : (1 : Int) ≤ ds.length := by omega
  have ht : isTab (.tuple ds) = false := by
    simp only [isTab, h0]
    cases r0 with
    | tuple _ => cases hr
    | _ => exact Bool.and_false _
  have hi : isiD .tuple (.tuple ds) = true := rfl
  rw [ht]
  unfold B_is_table
  simp [denSs, denS, den, dens, denAnd, denOr, denO, denA, denI, denT, denF, setR, ifR, bin2, un1, notD, chain2, andB, orB, iteB, tupR, lstR, consR, consG, datR, sloR, argSl, bltR, isiR, rdv, ixvR, held, isUn, subS, lenvR, lenS, callR, SR.seq, Res.to, B2.den, add_i, sub_i, C2.den, icmp, negD, itR, itsD, hi, Bt.den, hl', h1', ixD, atI_zero, h0, hr]
theorem tab_no5 {d : D} (hr : isiD .tuple d = false) : Rt 1 (.bool (isTab d)) (denSs Δ1 G B_is_table [.val d, .un, .un, .un]) := by
  have ht : isTab d = false := by
    cases d <;> first | rfl | cases hr
  rw [ht]
  unfold B_is_table
  simp [denSs, denS, den, dens, denAnd, denOr, denO, denA, denI, denT, denF, setR, ifR, bin2, un1, notD, chain2, andB, orB, iteB, tupR, lstR, consR, consG, datR, sloR, argSl, bltR, isiR, rdv, ixvR, held, isUn, subS, lenvR, lenS, callR, SR.seq, Res.to, B2.den, add_i, sub_i, C2.den, icmp, negD, itR, itsD, hr]
end
theorem sp_table {Δ Δ1 : Nat → Fn} {G : List (Str × D)} (h : Δ i_is_table = F_is_table.fn Δ1 G) (c2 : SpRising Δ1) (c3 : SpEntries Δ1) : SpTable Δ := fun d ρ => by
  refine call_rt (ds := [d]) h rfl ?_ ρ
  show Rt 1 _ (denSs Δ1 G B_is_table [.val d, .un, .un, .un])
  cases hd : isiD .tuple d with
  | false => exact tab_no5 hd
  | true =>
    cases d with
    | tuple ds =>
      by_cases hl : 1 ≤ ds.length ∧ ds.length ≤ 4
      · have h0 : ds[0]? = some ds[0] := List.getElem?_eq_getElem (by omega)
        generalize ds[0] = r0 at h0
        cases hr : isiD .tuple r0 with
        | false => exact tab_no4 h0 hr hl.1 hl.2
        | true =>
          cases r0 with
          | tuple es =>
            by_cases hm : 1 ≤ es.length ∧ es.length ≤ 4
            · cases hq : ds.all (fun x => aeB x es.length) with
              | true => exact tab_yes c2 c3 h0 hl.1 hl.2 hm.1 hm.2 hq
              | false => exact tab_no1 c2 c3 h0 hl.1 hl.2 hm.1 hm.2 hq
            · exact tab_no2 h0 hl.1 hl.2 hm
          | _ => cases hr
      · exact tab_no3 hl
    | _ => cases hd
end Dm
namespace Dm
open PySem PySem.Spec PyProof.Rows L2 LamX
/-! ### sizes, places, answers, looks, stories -/
theorem len2 {ds : List D} (h : ds.length = 2) : ∃ a b, ds = [a, b] := by
  match ds, h with
  | [a, b], _ => exact ⟨a, b, rfl⟩
def szD (r c : Nat) : D := .tuple [.int r, .int c]
def isSz (d : D) : Bool := match d with
  | .tuple ds => decide (ds.length = 2) && ds.all fun x => isWh x 1 4
  | _ => false
def SpSize (Δ : Nat → Fn) : Prop := ∀ d ρ, callD (Δ i_is_size) false [.dat d] ρ = .ok (.bool (isSz d)) ρ
theorem sp_size {Δ Δ1 : Nat → Fn} {G : List (Str × D)} (h : Δ i_is_size = F_is_size.fn Δ1 G) (c1 : SpWhole Δ1) : SpSize Δ := fun d ρ => by
  refine call_rt (ds := [d]) h rfl ?_ ρ
  show Rt 1 _ (denSs Δ1 G B_is_size [.val d, .un])
  unfold B_is_size
  cases d with
  | tuple ds =>
    by_cases hl : ds.length = 2
    · have hl' : (ds.length : Int) = 2 := by omega
      have hc : compR (.nm 1) [1] (itR (rdv 0)) none (callR (Δ1 0) false (consG (datR (rdv 1)) (consG (datR fun ρ => .ok (.int 1) ρ) (consG (datR fun ρ => .ok (.int 4) ρ) fun ρ => .ok [] ρ)))) [.val (.tuple ds), .un] = .ok (.list (ds.map fun x => .bool (isWh x 1 4))) [.val (.tuple ds), .un] := by
        refine comp_nm ds (fun d => d) _ rfl ?_ (by omega) (fun x hx => ?_)
        · simp [itR, rdv, itsD]
        · have := c1 x 1 4
          simp [callR, consG, datR, rdv, this]
      simp [denSs, denS, den, dens, denAnd, denOr, denO, denA, denI, denT, denF, setR, ifR, bin2, un1, notD, chain2, andB, orB, iteB, tupR, lstR, consR, consG, datR, sloR, argSl, bltR, isiR, rdv, ixvR, held, isUn, subS, lenvR, lenS, callR, SR.seq, Res.to, B2.den, add_i, sub_i, C2.den, icmp, negD, itR, itsD, hc, isiD, Bt.den, hl', all_id_map, isSz, hl]
    · have hl' : ¬ (ds.length : Int) = 2 := by omega
      simp [denSs, denS, den, dens, denAnd, denOr, denO, denA, denI, denT, denF, setR, ifR, bin2, un1, notD, chain2, andB, orB, iteB, tupR, lstR, consR, consG, datR, sloR, argSl, bltR, isiR, rdv, ixvR, held, isUn, subS, lenvR, lenS, callR, SR.seq, Res.to, B2.den, add_i, sub_i, C2.den, icmp, negD, itR, itsD, isiD, Bt.den, hl', isSz, hl]
  | _ => simp [denSs, denS, den, dens, denAnd, denOr, denO, denA, denI, denT, denF, setR, ifR, bin2, un1, notD, chain2, andB, orB, iteB, tupR, lstR, consR, consG, datR, sloR, argSl, bltR, isiR, rdv, ixvR, held, isUn, subS, lenvR, lenS, callR, SR.seq, Res.to, B2.den, add_i, sub_i, C2.den, icmp, negD, itR, itsD, isiD, isSz]
structure SpNeedSize (Δ : Nat → Fn) : Prop where
  ok : ∀ d ρ, isSz d = true → callD (Δ i_need_size) false [.dat d] ρ = .ok .none ρ
  no : ∀ d ρ, isSz d = false → callD (Δ i_need_size) false [.dat d] ρ = .exc .size ρ
theorem sp_needsize {Δ Δ1 : Nat → Fn} {G : List (Str × D)} (h : Δ i_need_size = F_need_size.fn Δ1 G) (c1 : SpSize Δ1) : SpNeedSize Δ := by
  refine ⟨fun d ρ hd => call_nx (ds := [d]) h rfl ?_ ρ, fun d ρ hd => call_xc (ds := [d]) h rfl ?_ ρ⟩
  · have := c1 d
    show Nx 1 (denSs Δ1 G B_need_size [.val d])
    unfold B_need_size
    simp [denSs, denS, den, dens, denAnd, denOr, denO, denA, denI, denT, denF, setR, ifR, bin2, un1, notD, chain2, andB, orB, iteB, tupR, lstR, consR, consG, datR, sloR, argSl, bltR, isiR, rdv, ixvR, held, isUn, subS, lenvR, lenS, callR, SR.seq, Res.to, B2.den, add_i, sub_i, C2.den, icmp, negD, itR, itsD, this, hd]
  · have := c1 d
    show Xc 1 .size (denSs Δ1 G B_need_size [.val d])
    unfold B_need_size
    simp [denSs, denS, den, dens, denAnd, denOr, denO, denA, denI, denT, denF, setR, ifR, bin2, un1, notD, chain2, andB, orB, iteB, tupR, lstR, consR, consG, datR, sloR, argSl, bltR, isiR, rdv, ixvR, held, isUn, subS, lenvR, lenS, callR, SR.seq, Res.to, B2.den, add_i, sub_i, C2.den, icmp, negD, itR, itsD, this, hd]
theorem isSz_sz {r c : Nat} (hr : 1 ≤ r ∧ r ≤ 4) (hc : 1 ≤ c ∧ c ≤ 4) : isSz (szD r c) = true := by
  simp [isSz, szD, isWh]; omega
def plD (p : Nat × Nat) : D := .tuple [.int p.1, .int p.2]
def isPl (r c : Nat) (d : D) : Bool := match d with
  | .tuple ds => decide (ds.length = 2) && (isWh (ds.getD 0 .none) 0 (r - 1) && isWh (ds.getD 1 .none) 0 (c - 1))
  | _ => false
def SpPlace (Δ : Nat → Fn) : Prop := ∀ (r c : Nat) d ρ, callD (Δ i_is_place) false [.dat (szD r c), .dat d] ρ = .ok (.bool (isPl r c d)) ρ
theorem atI_one {α : Type} (xs : List α) : atI xs 1 = xs[1]? := atI_nat xs 1
theorem sp_place {Δ Δ1 : Nat → Fn} {G : List (Str × D)} (h : Δ i_is_place = F_is_place.fn Δ1 G) (c1 : SpWhole Δ1) : SpPlace Δ := fun r c d ρ => by
  refine call_rt (ds := [szD r c, d]) h rfl ?_ ρ
  show Rt 2 _ (denSs Δ1 G B_is_place [.val (szD r c), .val d])
  unfold B_is_place szD
  cases d with
  | tuple ds =>
    by_cases hl : ds.length = 2
    · obtain ⟨a, b, rfl⟩ := len2 hl
      have e1 := c1 a 0 (r - 1)
      have e2 := c1 b 0 (c - 1)
      cases hq : isWh a 0 (r - 1) with
      | true => simp [denSs, denS, den, dens, denAnd, denOr, denO, denA, denI, denT, denF, setR, ifR, bin2, un1, notD, chain2, andB, orB, iteB, tupR, lstR, consR, consG, datR, sloR, argSl, bltR, isiR, rdv, ixvR, held, isUn, subS, lenvR, lenS, callR, SR.seq, Res.to, B2.den, add_i, sub_i, C2.den, icmp, negD, itR, itsD, isiD, Bt.den, isPl, ixD, atI_zero, atI_one, e1, e2, hq]
      | false => simp [denSs, denS, den, dens, denAnd, denOr, denO, denA, denI, denT, denF, setR, ifR, bin2, un1, notD, chain2, andB, orB, iteB, tupR, lstR, consR, consG, datR, sloR, argSl, bltR, isiR, rdv, ixvR, held, isUn, subS, lenvR, lenS, callR, SR.seq, Res.to, B2.den, add_i, sub_i, C2.den, icmp, negD, itR, itsD, isiD, Bt.den, isPl, ixD, atI_zero, atI_one, e1, e2, hq]
    · have hl' : ¬ (ds.length : Int) = 2 := by omega
      simp [denSs, denS, den, dens, denAnd, denOr, denO, denA, denI, denT, denF, setR, ifR, bin2, un1, notD, chain2, andB, orB, iteB, tupR, lstR, consR, consG, datR, sloR, argSl, bltR, isiR, rdv, ixvR, held, isUn, subS, lenvR, lenS, callR, SR.seq, Res.to, B2.den, add_i, sub_i, C2.den, icmp, negD, itR, itsD, isiD, Bt.den, hl', isPl, hl]
  | _ => simp [denSs, denS, den, dens, denAnd, denOr, denO, denA, denI, denT, denF, setR, ifR, bin2, un1, notD, chain2, andB, orB, iteB, tupR, lstR, consR, consG, datR, sloR, argSl, bltR, isiR, rdv, ixvR, held, isUn, subS, lenvR, lenS, callR, SR.seq, Res.to, B2.den, add_i, sub_i, C2.den, icmp, negD, itR, itsD, isiD, isPl]
structure SpNeedPlace (Δ : Nat → Fn) : Prop where
  ok : ∀ (r c : Nat) d ρ, isPl r c d = true → callD (Δ i_need_place) false [.dat (szD r c), .dat d] ρ = .ok .none ρ
  no : ∀ (r c : Nat) d ρ, isPl r c d = false → callD (Δ i_need_place) false [.dat (szD r c), .dat d] ρ = .exc .place ρ
theorem sp_needplace {Δ Δ1 : Nat → Fn} {G : List (Str × D)} (h : Δ i_need_place = F_need_place.fn Δ1 G) (c1 : SpPlace Δ1) : SpNeedPlace Δ := by
  refine ⟨fun r c d ρ hd => call_nx (ds := [szD r c, d]) h rfl ?_ ρ, fun r c d ρ hd => call_xc (ds := [szD r c, d]) h rfl ?_ ρ⟩
  · have := c1 r c d
    show Nx 2 (denSs Δ1 G B_need_place [.val (szD r c), .val d])
    unfold B_need_place
    simp [denSs, denS, den, dens, denAnd, denOr, denO, denA, denI, denT, denF, setR, ifR, bin2, un1, notD, chain2, andB, orB, iteB, tupR, lstR, consR, consG, datR, sloR, argSl, bltR, isiR, rdv, ixvR, held, isUn, subS, lenvR, lenS, callR, SR.seq, Res.to, B2.den, add_i, sub_i, C2.den, icmp, negD, itR, itsD, this, hd]
  · have := c1 r c d
    show Xc 2 .place (denSs Δ1 G B_need_place [.val (szD r c), .val d])
    unfold B_need_place
    simp [denSs, denS, den, dens, denAnd, denOr, denO, denA, denI, denT, denF, setR, ifR, bin2, un1, notD, chain2, andB, orB, iteB, tupR, lstR, consR, consG, datR, sloR, argSl, bltR, isiR, rdv, ixvR, held, isUn, subS, lenvR, lenS, callR, SR.seq, Res.to, B2.den, add_i, sub_i, C2.den, icmp, negD, itR, itsD, this, hd]
inductive An where
  | le | gr | eq
  deriving DecidableEq
def An.s : An → Str
  | .le => "less" | .gr => "greater" | .eq => "equal"
def ansD : List D := [.str "less", .str "greater", .str "equal"]
def isAn (d : D) : Bool := match d with
  | .str x => ansD.any fun z => PyData.eqv z (.str x)
  | _ => false
def gAns (G : List (Str × D)) : Prop := ∃ x, G[0]? = some (x, .tuple ansD)
def SpAnswer (Δ : Nat → Fn) : Prop := ∀ d ρ, callD (Δ i_is_answer) false [.dat d] ρ = .ok (.bool (isAn d)) ρ
theorem sp_answer {Δ Δ1 : Nat → Fn} {G : List (Str × D)} (h : Δ i_is_answer = F_is_answer.fn Δ1 G) (hG : gAns G) : SpAnswer Δ := fun d ρ => by
  refine call_rt (ds := [d]) h rfl ?_ ρ
  show Rt 1 _ (denSs Δ1 G B_is_answer [.val d])
  unfold B_is_answer
  obtain ⟨x, hG⟩ := hG
  cases d with
  | str z =>
    have e : inD (.str z) (.tuple ansD) = some (.bool (ansD.any fun w => PyData.eqv w (.str z))) := rfl
    simp [denSs, denS, den, dens, denAnd, denOr, denO, denA, denI, denT, denF, setR, ifR, bin2, un1, notD, chain2, andB, orB, iteB, tupR, lstR, consR, consG, datR, sloR, argSl, bltR, isiR, rdv, ixvR, held, isUn, subS, lenvR, lenS, callR, SR.seq, Res.to, B2.den, add_i, sub_i, C2.den, icmp, negD, itR, itsD, isiD, hG, e, isAn]
  | _ => simp [denSs, denS, den, dens, denAnd, denOr, denO, denA, denI, denT, denF, setR, ifR, bin2, un1, notD, chain2, andB, orB, iteB, tupR, lstR, consR, consG, datR, sloR, argSl, bltR, isiR, rdv, ixvR, held, isUn, subS, lenvR, lenS, callR, SR.seq, Res.to, B2.den, add_i, sub_i, C2.den, icmp, negD, itR, itsD, isiD, isAn]
def isLk (r c : Nat) (d : D) : Bool := match d with
  | .tuple ds => decide (ds.length = 2) && (isPl r c (ds.getD 0 .none) && isAn (ds.getD 1 .none))
  | _ => false
def SpLook (Δ : Nat → Fn) : Prop := ∀ (r c : Nat) d ρ, callD (Δ i_is_look) false [.dat (szD r c), .dat d] ρ = .ok (.bool (isLk r c d)) ρ
theorem sp_look {Δ Δ1 : Nat → Fn} {G : List (Str × D)} (h : Δ i_is_look = F_is_look.fn Δ1 G) (c1 : SpPlace Δ1) (c2 : SpAnswer Δ1) : SpLook Δ := fun r c d ρ => by
  refine call_rt (ds := [szD r c, d]) h rfl ?_ ρ
  show Rt 2 _ (denSs Δ1 G B_is_look [.val (szD r c), .val d])
  unfold B_is_look
  cases d with
  | tuple ds =>
    by_cases hl : ds.length = 2
    · obtain ⟨a, b, rfl⟩ := len2 hl
      have e1 := c1 r c a
      have e2 := c2 b
      cases hq : isPl r c a with
      | true => simp [denSs, denS, den, dens, denAnd, denOr, denO, denA, denI, denT, denF, setR, ifR, bin2, un1, notD, chain2, andB, orB, iteB, tupR, lstR, consR, consG, datR, sloR, argSl, bltR, isiR, rdv, ixvR, held, isUn, subS, lenvR, lenS, callR, SR.seq, Res.to, B2.den, add_i, sub_i, C2.den, icmp, negD, itR, itsD, isiD, Bt.den, isLk, ixD, atI_zero, atI_one, e1, e2, hq]
      | false => simp [denSs, denS, den, dens, denAnd, denOr, denO, denA, denI, denT, denF, setR, ifR, bin2, un1, notD, chain2, andB, orB, iteB, tupR, lstR, consR, consG, datR, sloR, argSl, bltR, isiR, rdv, ixvR, held, isUn, subS, lenvR, lenS, callR, SR.seq, Res.to, B2.den, add_i, sub_i, C2.den, icmp, negD, itR, itsD, isiD, Bt.den, isLk, ixD, atI_zero, atI_one, e1, e2, hq]
    · have hl' : ¬ (ds.length : Int) = 2 := by omega
      simp [denSs, denS, den, dens, denAnd, denOr, denO, denA, denI, denT, denF, setR, ifR, bin2, un1, notD, chain2, andB, orB, iteB, tupR, lstR, consR, consG, datR, sloR, argSl, bltR, isiR, rdv, ixvR, held, isUn, subS, lenvR, lenS, callR, SR.seq, Res.to, B2.den, add_i, sub_i, C2.den, icmp, negD, itR, itsD, isiD, Bt.den, hl', isLk, hl]
  | _ => simp [denSs, denS, den, dens, denAnd, denOr, denO, denA, denI, denT, denF, setR, ifR, bin2, un1, notD, chain2, andB, orB, iteB, tupR, lstR, consR, consG, datR, sloR, argSl, bltR, isiR, rdv, ixvR, held, isUn, subS, lenvR, lenS, callR, SR.seq, Res.to, B2.den, add_i, sub_i, C2.den, icmp, negD, itR, itsD, isiD, isLk]
def isSt (r c : Nat) (d : D) : Bool := match d with
  | .tuple ds => decide (ds.length ≤ 20) && ds.all (isLk r c)
  | _ => false
def SpGood (Δ : Nat → Fn) : Prop := ∀ (r c : Nat) d ρ, callD (Δ i_good_story) false [.dat (szD r c), .dat d] ρ = .ok (.bool (isSt r c d)) ρ
theorem sp_good {Δ Δ1 : Nat → Fn} {G : List (Str × D)} (h : Δ i_good_story = F_good_story.fn Δ1 G) (c1 : SpLook Δ1) : SpGood Δ := fun r c d ρ => by
  refine call_rt (ds := [szD r c, d]) h rfl ?_ ρ
  show Rt 2 _ (denSs Δ1 G B_good_story [.val (szD r c), .val d, .un])
  unfold B_good_story
  cases d with
  | tuple ds =>
    by_cases hl : ds.length ≤ 20
    · have hl' : (ds.length : Int) ≤ 20 := by omega
      have hc : compR (.nm 2) [2] (itR (rdv 1)) none (callR (Δ1 32) false (consG (datR (rdv 0)) (consG (datR (rdv 2)) fun ρ => .ok [] ρ))) [.val (szD r c), .val (.tuple ds), .un] = .ok (.list (ds.map fun x => .bool (isLk r c x))) [.val (szD r c), .val (.tuple ds), .un] := by
        refine comp_nm ds (fun d => d) _ rfl ?_ (by omega) (fun x hx => ?_)
        · simp [itR, rdv, itsD]
        · have := c1 r c x
          simp [callR, consG, datR, rdv, this]
      simp [denSs, denS, den, dens, denAnd, denOr, denO, denA, denI, denT, denF, setR, ifR, bin2, un1, notD, chain2, andB, orB, iteB, tupR, lstR, consR, consG, datR, sloR, argSl, bltR, isiR, rdv, ixvR, held, isUn, subS, lenvR, lenS, callR, SR.seq, Res.to, B2.den, add_i, sub_i, C2.den, icmp, negD, itR, itsD, hc, isiD, Bt.den, hl', all_id_map, isSt, hl]
    · have hl' : ¬ (ds.length : Int) ≤ 20 := by omega
      simp [denSs, denS, den, dens, denAnd, denOr, denO, denA, denI, denT, denF, setR, ifR, bin2, un1, notD, chain2, andB, orB, iteB, tupR, lstR, consR, consG, datR, sloR, argSl, bltR, isiR, rdv, ixvR, held, isUn, subS, lenvR, lenS, callR, SR.seq, Res.to, B2.den, add_i, sub_i, C2.den, icmp, negD, itR, itsD, isiD, Bt.den, hl', isSt, hl]
  | _ => simp [denSs, denS, den, dens, denAnd, denOr, denO, denA, denI, denT, denF, setR, ifR, bin2, un1, notD, chain2, andB, orB, iteB, tupR, lstR, consR, consG, datR, sloR, argSl, bltR, isiR, rdv, ixvR, held, isUn, subS, lenvR, lenS, callR, SR.seq, Res.to, B2.den, add_i, sub_i, C2.den, icmp, negD, itR, itsD, isiD, isSt]
structure SpStory (Δ : Nat → Fn) : Prop where
  ok : ∀ (r c : Nat) d ρ, isSz (szD r c) = true → callD (Δ i_is_story) false [.dat (szD r c), .dat d] ρ = .ok (.bool (isSt r c d)) ρ
  no : ∀ s d ρ, isSz s = false → callD (Δ i_is_story) false [.dat s, .dat d] ρ = .exc .size ρ
theorem sp_story {Δ Δ1 : Nat → Fn} {G : List (Str × D)} (h : Δ i_is_story = F_is_story.fn Δ1 G) (c1 : SpNeedSize Δ1) (c2 : SpGood Δ1) : SpStory Δ := by
  refine ⟨fun r c d ρ hs => call_rt (ds := [szD r c, d]) h rfl ?_ ρ, fun s d ρ hs => call_xc (ds := [s, d]) h rfl ?_ ρ⟩
  · have e1 := fun ρ => c1.ok (szD r c) ρ hs
    have e2 := c2 r c d
    show Rt 2 _ (denSs Δ1 G B_is_story [.val (szD r c), .val d])
    unfold B_is_story
    simp [denSs, denS, den, dens, denAnd, denOr, denO, denA, denI, denT, denF, setR, ifR, bin2, un1, notD, chain2, andB, orB, iteB, tupR, lstR, consR, consG, datR, sloR, argSl, bltR, isiR, rdv, ixvR, held, isUn, subS, lenvR, lenS, callR, SR.seq, Res.to, B2.den, add_i, sub_i, C2.den, icmp, negD, itR, itsD, e1, e2]
  · have e1 := fun ρ => c1.no s ρ hs
    show Xc 2 .size (denSs Δ1 G B_is_story [.val s, .val d])
    unfold B_is_story
    simp [denSs, denS, den, dens, denAnd, denOr, denO, denA, denI, denT, denF, setR, ifR, bin2, un1, notD, chain2, andB, orB, iteB, tupR, lstR, consR, consG, datR, sloR, argSl, bltR, isiR, rdv, ixvR, held, isUn, subS, lenvR, lenS, callR, SR.seq, Res.to, B2.den, add_i, sub_i, C2.den, icmp, negD, itR, itsD, e1]
structure SpNeedLooks (Δ : Nat → Fn) : Prop where
  ok : ∀ (r c : Nat) d ρ, isSz (szD r c) = true → isSt r c d = true → callD (Δ i_need_looks) false [.dat (szD r c), .dat d] ρ = .ok .none ρ
  no : ∀ (r c : Nat) d ρ, isSz (szD r c) = true → isSt r c d = false → callD (Δ i_need_looks) false [.dat (szD r c), .dat d] ρ = .exc .story ρ
  sz : ∀ s d ρ, isSz s = false → callD (Δ i_need_looks) false [.dat s, .dat d] ρ = .exc .size ρ
theorem sp_needlooks {Δ Δ1 : Nat → Fn} {G : List (Str × D)} (h : Δ i_need_looks = F_need_looks.fn Δ1 G) (c1 : SpNeedSize Δ1) (c2 : SpGood Δ1) : SpNeedLooks Δ := by
  refine ⟨fun r c d ρ hs hd => call_nx (ds := [szD r c, d]) h rfl ?_ ρ, fun r c d ρ hs hd => call_xc (ds := [szD r c, d]) h rfl ?_ ρ, fun s d ρ hs => call_xc (ds := [s, d]) h rfl ?_ ρ⟩
  · have e1 := fun ρ => c1.ok (szD r c) ρ hs
    have e2 := c2 r c d
    show Nx 2 (denSs Δ1 G B_need_looks [.val (szD r c), .val d])
    unfold B_need_looks
    simp [denSs, denS, den, dens, denAnd, denOr, denO, denA, denI, denT, denF, setR, ifR, bin2, un1, notD, chain2, andB, orB, iteB, tupR, lstR, consR, consG, datR, sloR, argSl, bltR, isiR, rdv, ixvR, held, isUn, subS, lenvR, lenS, callR, SR.seq, Res.to, B2.den, add_i, sub_i, C2.den, icmp, negD, itR, itsD, e1, e2, hd]
  · have e1 := fun ρ => c1.ok (szD r c) ρ hs
    have e2 := c2 r c d
    show Xc 2 .story (denSs Δ1 G B_need_looks [.val (szD r c), .val d])
    unfold B_need_looks
    simp [denSs, denS, den, dens, denAnd, denOr, denO, denA, denI, denT, denF, setR, ifR, bin2, un1, notD, chain2, andB, orB, iteB, tupR, lstR, consR, consG, datR, sloR, argSl, bltR, isiR, rdv, ixvR, held, isUn, subS, lenvR, lenS, callR, SR.seq, Res.to, B2.den, add_i, sub_i, C2.den, icmp, negD, itR, itsD, e1, e2, hd]
  · have e1 := fun ρ => c1.no s ρ hs
    show Xc 2 .size (denSs Δ1 G B_need_looks [.val s, .val d])
    unfold B_need_looks
    simp [denSs, denS, den, dens, denAnd, denOr, denO, denA, denI, denT, denF, setR, ifR, bin2, un1, notD, chain2, andB, orB, iteB, tupR, lstR, consR, consG, datR, sloR, argSl, bltR, isiR, rdv, ixvR, held, isUn, subS, lenvR, lenS, callR, SR.seq, Res.to, B2.den, add_i, sub_i, C2.den, icmp, negD, itR, itsD, e1]
/-! ### clean looks -/
abbrev Pl := Nat × Nat
abbrev Lk := Pl × An
def lkD (l : Lk) : D := .tuple [plD l.1, .str l.2.s]
def stD (s : List Lk) : D := .tuple (s.map lkD)
def upTo (p q : Pl) : Bool := decide (p.1 ≤ q.1) && decide (p.2 ≤ q.2)
def inSz (r c : Nat) (p : Pl) : Prop := p.1 < r ∧ p.2 < c
theorem isPl_pl {r c : Nat} {p : Pl} (h : inSz r c p) : isPl r c (plD p) = true := by
  obtain ⟨h1, h2⟩ := h
  simp [isPl, plD, isWh]; omega
theorem isAn_an (a : An) : isAn (.str a.s) = true := by cases a <;> kernel_rfl
theorem isLk_lk {r c : Nat} {l : Lk} (h : inSz r c l.1) : isLk r c (lkD l) = true := by
  simp [isLk, lkD, isPl_pl h, isAn_an]
theorem isSt_st {r c : Nat} {s : List Lk} (hl : s.length ≤ 20) (h : ∀ l ∈ s, inSz r c l.1) : isSt r c (stD s) = true := by
  simp only [isSt, stD, List.length_map, decide_eq_true hl, Bool.true_and, List.all_map, List.all_eq_true]
  exact fun l hl => isLk_lk (h l hl)
def SpUp (Δ : Nat → Fn) : Prop := ∀ (p q : Pl) ρ, callD (Δ i_is_up_to) false [.dat (plD p), .dat (plD q)] ρ = .ok (.bool (upTo p q)) ρ
theorem sp_up {Δ Δ1 : Nat → Fn} {G : List (Str × D)} (h : Δ i_is_up_to = F_is_up_to.fn Δ1 G) : SpUp Δ := fun p q ρ => by
  refine call_rt (ds := [plD p, plD q]) h rfl ?_ ρ
  show Rt 2 _ (denSs Δ1 G B_is_up_to [.val (plD p), .val (plD q)])
  unfold B_is_up_to plD upTo
  by_cases h1 : p.1 ≤ q.1
  · simp [denSs, denS, den, dens, denAnd, denOr, denO, denA, denI, denT, denF, setR, ifR, bin2, un1, notD, chain2, andB, orB, iteB, tupR, lstR, consR, consG, datR, sloR, argSl, bltR, isiR, rdv, ixvR, held, isUn, subS, lenvR, lenS, callR, SR.seq, Res.to, B2.den, add_i, sub_i, C2.den, icmp, negD, itR, itsD, ixD, atI_zero, atI_one, h1]
  · simp [denSs, denS, den, dens, denAnd, denOr, denO, denA, denI, denT, denF, setR, ifR, bin2, un1, notD, chain2, andB, orB, iteB, tupR, lstR, consR, consG, datR, sloR, argSl, bltR, isiR, rdv, ixvR, held, isUn, subS, lenvR, lenS, callR, SR.seq, Res.to, B2.den, add_i, sub_i, C2.den, icmp, negD, itR, itsD, ixD, atI_zero, atI_one, h1]
theorem eq_less (a : An) : eqD (.str a.s) (.str "less") = some (.bool (decide (a = .le))) := by cases a <;> kernel_rfl
theorem eq_gr (a : An) : eqD (.str a.s) (.str "greater") = some (.bool (decide (a = .gr))) := by cases a <;> kernel_rfl
theorem eq_eq (a : An) : eqD (.str a.s) (.str "equal") = some (.bool (decide (a = .eq))) := by cases a <;> kernel_rfl
theorem ne_less (a : An) : neD (.str a.s) (.str "less") = some (.bool (!decide (a = .le))) := by cases a <;> kernel_rfl
theorem ne_gr (a : An) : neD (.str a.s) (.str "greater") = some (.bool (!decide (a = .gr))) := by cases a <;> kernel_rfl
theorem eqv_pl (p q : Pl) : PyData.eqv (plD p) (plD q) = decide (p = q) := by
  simp only [plD, PyData.eqv, PyData.eqvAll]
  obtain ⟨a, b⟩ := p
  obtain ⟨c, d⟩ := q
  have e : ∀ i j : Nat, ((i : Int) == (j : Int)) = decide (i = j) := fun i j => by
    by_cases h : i = j
    · simp [h]
    · have h' : ¬ (i : Int) = j := by omega
      simp [h, h']
  by_cases h1 : a = c <;> by_cases h2 : b = d <;> simp [e, h1, h2]
theorem dep_pl (p : Pl) : (plD p).depth ≤ 3 := by
  simp [plD, PyData.depth, PyData.depthAll]
theorem ne_pl (p q : Pl) : neD (plD p) (plD q) = some (.bool (!decide (p = q))) := by
  unfold neD
  rw [if_pos (Nat.le_trans (Nat.min_le_left _ _) (Nat.le_trans (dep_pl p) (by decide))), eqv_pl]
theorem eq_pl (p q : Pl) : eqD (plD p) (plD q) = some (.bool (decide (p = q))) := by
  unfold eqD
  rw [if_pos (Nat.le_trans (Nat.min_le_left _ _) (Nat.le_trans (dep_pl p) (by decide))), eqv_pl]
end Dm
namespace Dm
open PySem PySem.Spec PyProof.Rows L2 LamX
/-! ### clashes -/
def clB (a b : Lk) : Bool := match a.2 with
  | .le => !decide (b.2 = .le) && upTo b.1 a.1
  | .gr => !decide (b.2 = .gr) && upTo a.1 b.1
  | .eq => decide (b.2 = .eq) && (!decide (a.1 = b.1) && upTo a.1 b.1)
def cl2 (a b : Lk) : Bool := clB a b || clB b a
def SpClashing (Δ : Nat → Fn) : Prop := ∀ (a b : Lk) ρ, callD (Δ i_clashing) false [.dat (lkD a), .dat (lkD b)] ρ = .ok (.bool (clB a b)) ρ
theorem sp_clashing {Δ Δ1 : Nat → Fn} {G : List (Str × D)} (h : Δ i_clashing = F_clashing.fn Δ1 G) (c1 : SpUp Δ1) : SpClashing Δ := fun a b ρ => by
  refine call_rt (ds := [lkD a, lkD b]) h rfl ?_ ρ
  show Rt 2 _ (denSs Δ1 G B_clashing [.val (lkD a), .val (lkD b), .un, .un, .un, .un])
  obtain ⟨p, x⟩ := a
  obtain ⟨q, y⟩ := b
  have e1 := c1 p q
  have e2 := c1 q p
  unfold B_clashing lkD clB
  cases x with
  | le =>
    by_cases hy : y = .le
    · simp [denSs, denS, den, dens, denAnd, denOr, denO, denA, denI, denT, denF, setR, ifR, bin2, un1, notD, chain2, andB, orB, iteB, tupR, lstR, consR, consG, datR, sloR, argSl, bltR, isiR, rdv, ixvR, held, isUn, subS, lenvR, lenS, callR, SR.seq, Res.to, B2.den, add_i, sub_i, C2.den, icmp, negD, itR, itsD, asgR, bindP, bindPs, Pts.len, eq_less, ne_less, hy]
    · simp [denSs, denS, den, dens, denAnd, denOr, denO, denA, denI, denT, denF, setR, ifR, bin2, un1, notD, chain2, andB, orB, iteB, tupR, lstR, consR, consG, datR, sloR, argSl, bltR, isiR, rdv, ixvR, held, isUn, subS, lenvR, lenS, callR, SR.seq, Res.to, B2.den, add_i, sub_i, C2.den, icmp, negD, itR, itsD, asgR, bindP, bindPs, Pts.len, eq_less, ne_less, hy, e2]
  | gr =>
    by_cases hy : y = .gr
    · simp [denSs, denS, den, dens, denAnd, denOr, denO, denA, denI, denT, denF, setR, ifR, bin2, un1, notD, chain2, andB, orB, iteB, tupR, lstR, consR, consG, datR, sloR, argSl, bltR, isiR, rdv, ixvR, held, isUn, subS, lenvR, lenS, callR, SR.seq, Res.to, B2.den, add_i, sub_i, C2.den, icmp, negD, itR, itsD, asgR, bindP, bindPs, Pts.len, eq_less, eq_gr, ne_gr, hy]
    · simp [denSs, denS, den, dens, denAnd, denOr, denO, denA, denI, denT, denF, setR, ifR, bin2, un1, notD, chain2, andB, orB, iteB, tupR, lstR, consR, consG, datR, sloR, argSl, bltR, isiR, rdv, ixvR, held, isUn, subS, lenvR, lenS, callR, SR.seq, Res.to, B2.den, add_i, sub_i, C2.den, icmp, negD, itR, itsD, asgR, bindP, bindPs, Pts.len, eq_less, eq_gr, ne_gr, hy, e1]
  | eq =>
    by_cases hy : y = .eq
    · by_cases hp : p = q
      · simp [denSs, denS, den, dens, denAnd, denOr, denO, denA, denI, denT, denF, setR, ifR, bin2, un1, notD, chain2, andB, orB, iteB, tupR, lstR, consR, consG, datR, sloR, argSl, bltR, isiR, rdv, ixvR, held, isUn, subS, lenvR, lenS, callR, SR.seq, Res.to, B2.den, add_i, sub_i, C2.den, icmp, negD, itR, itsD, asgR, bindP, bindPs, Pts.len, eq_less, eq_gr, eq_eq, hy, ne_pl, hp]
      · simp [denSs, denS, den, dens, denAnd, denOr, denO, denA, denI, denT, denF, setR, ifR, bin2, un1, notD, chain2, andB, orB, iteB, tupR, lstR, consR, consG, datR, sloR, argSl, bltR, isiR, rdv, ixvR, held, isUn, subS, lenvR, lenS, callR, SR.seq, Res.to, B2.den, add_i, sub_i, C2.den, icmp, negD, itR, itsD, asgR, bindP, bindPs, Pts.len, eq_less, eq_gr, eq_eq, hy, ne_pl, hp, e1]
    · simp [denSs, denS, den, dens, denAnd, denOr, denO, denA, denI, denT, denF, setR, ifR, bin2, un1, notD, chain2, andB, orB, iteB, tupR, lstR, consR, consG, datR, sloR, argSl, bltR, isiR, rdv, ixvR, held, isUn, subS, lenvR, lenS, callR, SR.seq, Res.to, B2.den, add_i, sub_i, C2.den, icmp, negD, itR, itsD, asgR, bindP, bindPs, Pts.len, eq_less, eq_gr, eq_eq, hy]
def lkAt (s : List Lk) (i : Nat) : Lk := s.getD i ((0, 0), .eq)
def inn (s : List Lk) (i : Nat) : Option Nat := (List.range (s.length - (i + 1))).find? fun k => cl2 (lkAt s i) (lkAt s (i + 1 + k))
def fcs (s : List Lk) : Option (Nat × Nat) := ((List.range s.length).find? fun i => (inn s i).isSome).map fun i => (i, i + 1 + (inn s i).getD 0)
def fcD : Option (Nat × Nat) → D
  | none => .none
  | some p => plD p
theorem enumD_map {α : Type} (g : α → D) : ∀ (k : Nat) (xs : List α), enumD k (xs.map g) = (List.range xs.length).map fun i => .tuple [.int ((k + i : Nat) : Int), (xs[i]?.map g).getD .none]
  | _, [] => rfl
  | k, x :: xs => by
    have ih := enumD_map g (k + 1) xs
    rw [List.map_cons, enumD, ih, List.length_cons, List.range_succ_eq_map, List.map_cons, List.map_map]
    simp only [List.getElem?_cons_zero, Nat.add_zero, List.cons.injEq, true_and, Option.map_some, Option.getD_some]
    refine List.map_congr_left fun i hi => ?_
    simp only [Function.comp, List.getElem?_cons_succ]
    rw [show k + 1 + i = k + i.succ by omega]
theorem lk_at {s : List Lk} {i : Nat} (h : i < s.length) : s[i]? = some (lkAt s i) := by
  simp [lkAt, List.getD, List.getElem?_eq_getElem h]
theorem st_at {s : List Lk} {i : Nat} (h : i < s.length) : ixD (stD s) (.int i) = some (lkD (lkAt s i)) := by
  show atI (s.map lkD) (i : Int) = _
  rw [atI_nat, List.getElem?_map, lk_at h]
  rfl
theorem std_len (s : List Lk) : Bt.len.den [stD s] = some (.int s.length) := by
  simp [Bt.den, stD]
theorem rng2_ok {m n : Rho → Res D} {ρ ρ1 ρ2 : Rho} {a b : Nat} (h : m ρ = .ok (.int a) ρ1) (h2 : n ρ1 = .ok (.int b) ρ2) (ha : a ≤ 1000000) (hb : b ≤ 1000000) : rng2R m n ρ = .ok ((List.range (b - a)).map fun k : Nat => PyData.int ((a + k : Nat) : Int)) ρ2 := by
  have hs : smallI (a : Int) = true := smallI_le (by omega) (by omega)
  have hs2 : smallI (b : Int) = true := smallI_le (by omega) (by omega)
  unfold rng2R
  rw [h, Res.bind_ok, h2, Res.bind_ok]
  show (if (smallI (a : Int) && smallI (b : Int)) = true then _ else _) = _
  rw [if_pos (by rw [hs, hs2]; rfl)]
  unfold intsD
  rw [show ((b : Int) - (a : Int)).toNat = b - a by omega]
  rfl
theorem to_ok {α : Type} {r : Res α} {a : α} {ρ : Rho} (f : α → Rho → SR) (h : r = .ok a ρ) : r.to f = f a ρ := by rw [h]; rfl
section
variable {Δ : Nat → Fn} {G : List (Str × D)} {p : Pt} {x y : IE} {body : ISs} {ρ ρ1 ρ2 : Rho}
theorem s_for2 {a b : Nat} (h : den Δ G x ρ = .ok (.int a) ρ1) (h2 : den Δ G y ρ1 = .ok (.int b) ρ2) (ha : a ≤ 1000000) (hb : b ≤ 1000000) : denS Δ G (.for_ p (.rng2 x y) body) ρ = forL p (denSs Δ G body) ((List.range (b - a)).map fun k : Nat => PyData.int ((a + k : Nat) : Int)) ρ2 := by
  show (rng2R (den Δ G x) (den Δ G y) ρ).to _ = _
  rw [rng2_ok h h2 ha hb]; rfl
theorem s_for1 {n : Nat} (h : den Δ G x ρ = .ok (.int n) ρ1) (hn : n ≤ 1000000) : denS Δ G (.for_ p (.rng1 x) body) ρ = forL p (denSs Δ G body) ((List.range n).map fun i : Nat => PyData.int (i : Int)) ρ1 := by
  show (rng1R (den Δ G x) ρ).to _ = _
  rw [rng1_ok h hn]; rfl
theorem s_forD {d : D} {ds : List D} (h : den Δ G x ρ = .ok d ρ1) (hd : itsD d = some ds) : denS Δ G (.for_ p (.dat x) body) ρ = forL p (denSs Δ G body) ds ρ1 := by
  show (itR (den Δ G x) ρ).to _ = _
  unfold itR
  rw [h, Res.bind_ok, hd]; rfl
theorem s_forE {d : D} {ds : List D} (h : den Δ G x ρ = .ok d ρ1) (hd : seqD d = some ds) : denS Δ G (.for_ p (.enm x) body) ρ = forL p (denSs Δ G body) (enumD 0 ds) ρ1 := by
  show (enumR (den Δ G x) ρ).to _ = _
  unfold enumR
  rw [h, Res.bind_ok]
  show (match seqD d with | some ds => Res.ok (enumD 0 ds) ρ1 | none => .bad).to _ = _
  rw [hd]; rfl
end
section
variable {Δ1 : Nat → Fn} {G : List (Str × D)} {s : List Lk}
def I4 (s : List Lk) (ρ : Rho) : Prop := ∃ a b c, ρ = [.val (stD s), a, b, c]
def I4' (s : List Lk) (i : Nat) (ρ : Rho) : Prop := ∃ c, ρ = [.val (stD s), .val (.int i), .val (lkD (lkAt s i)), c]
def bIn : ISs := .cons (.ifs (.or (.cons (.call 37 false (.val (.var 2) (.val (.ixv 0 (.var 3)) .nil))) (.cons (.call 37 false (.val (.ixv 0 (.var 3)) (.val (.var 2) .nil))) .nil))) (.cons (.ret (.tup (.cons (.var 1) (.cons (.var 3) .nil)))) .nil) .nil) .nil
theorem fc_in (c1 : SpClashing Δ1) {i j : Nat} (hj : j < s.length) : denSs Δ1 G bIn [.val (stD s), .val (.int i), .val (lkD (lkAt s i)), .val (.int (j : Int))] = if cl2 (lkAt s i) (lkAt s j) then .rt (plD (i, j)) [.val (stD s), .val (.int i), .val (lkD (lkAt s i)), .val (.int (j : Int))] else .nx [.val (stD s), .val (.int i), .val (lkD (lkAt s i)), .val (.int (j : Int))] := by
  have e1 := c1 (lkAt s i) (lkAt s j)
  have e2 := c1 (lkAt s j) (lkAt s i)
  have e3 := st_at hj
  unfold bIn cl2 plD
  cases h1 : clB (lkAt s i) (lkAt s j) with
  | true => simp [denSs, denS, den, dens, denAnd, denOr, denO, denA, denI, denT, denF, setR, ifR, bin2, un1, notD, chain2, andB, orB, iteB, tupR, lstR, consR, consG, datR, sloR, argSl, bltR, isiR, rdv, ixvR, held, isUn, subS, lenvR, lenS, callR, SR.seq, Res.to, B2.den, add_i, sub_i, C2.den, icmp, negD, itR, itsD, e3, e1, h1]
  | false =>
    cases h2 : clB (lkAt s j) (lkAt s i) with
    | true => simp [denSs, denS, den, dens, denAnd, denOr, denO, denA, denI, denT, denF, setR, ifR, bin2, un1, notD, chain2, andB, orB, iteB, tupR, lstR, consR, consG, datR, sloR, argSl, bltR, isiR, rdv, ixvR, held, isUn, subS, lenvR, lenS, callR, SR.seq, Res.to, B2.den, add_i, sub_i, C2.den, icmp, negD, itR, itsD, e3, e1, e2, h1, h2]
    | false => simp [denSs, denS, den, dens, denAnd, denOr, denO, denA, denI, denT, denF, setR, ifR, bin2, un1, notD, chain2, andB, orB, iteB, tupR, lstR, consR, consG, datR, sloR, argSl, bltR, isiR, rdv, ixvR, held, isUn, subS, lenvR, lenS, callR, SR.seq, Res.to, B2.den, add_i, sub_i, C2.den, icmp, negD, itR, itsD, e3, e1, e2, h1, h2]
theorem fc_row (c1 : SpClashing Δ1) (hl : s.length ≤ 1000) {i : Nat} (hi : i < s.length) (c : Sl) : ∃ c', denS Δ1 G (.for_ (.nm 3) (.rng2 (.bin .add (.var 1) (.int 1)) (.lenv 0)) bIn) [.val (stD s), .val (.int i), .val (lkD (lkAt s i)), c] = match inn s i with
    | some k => .rt (plD (i, i + 1 + k)) [.val (stD s), .val (.int i), .val (lkD (lkAt s i)), c']
    | none => .nx [.val (stD s), .val (.int i), .val (lkD (lkAt s i)), c'] := by
  rw [s_for2 (a := i + 1) (b := s.length) (ρ1 := [.val (stD s), .val (.int i), .val (lkD (lkAt s i)), c]) (ρ2 := [.val (stD s), .val (.int i), .val (lkD (lkAt s i)), c]) ?h1 ?h2 (by omega) (by omega)]
  case h1 => simp [denSs, denS, den, dens, denAnd, denOr, denO, denA, denI, denT, denF, setR, ifR, bin2, un1, notD, chain2, andB, orB, iteB, tupR, lstR, consR, consG, datR, sloR, argSl, bltR, isiR, rdv, ixvR, held, isUn, subS, lenvR, lenS, callR, SR.seq, Res.to, B2.den, add_i, sub_i, C2.den, icmp, negD, itR, itsD]
  case h2 => simp [denSs, denS, den, dens, denAnd, denOr, denO, denA, denI, denT, denF, setR, ifR, bin2, un1, notD, chain2, andB, orB, iteB, tupR, lstR, consR, consG, datR, sloR, argSl, bltR, isiR, rdv, ixvR, held, isUn, subS, lenvR, lenS, callR, SR.seq, Res.to, B2.den, add_i, sub_i, C2.den, icmp, negD, itR, itsD, std_len]
  obtain ⟨ρ', ⟨c', rfl⟩, e⟩ := for_find (p := .nm 3) (body := denSs Δ1 G bIn) (fun k : Nat => PyData.int ((i + 1 + k : Nat) : Int)) (fun k => cl2 (lkAt s i) (lkAt s (i + 1 + k))) (fun k => plD (i, i + 1 + k)) (fun ρ => ∃ c, ρ = [.val (stD s), .val (.int i), .val (lkD (lkAt s i)), c]) (List.range (s.length - (i + 1))) [.val (stD s), .val (.int i), .val (lkD (lkAt s i)), c] ⟨c, rfl⟩ (fun k hk ρ hρ => by
    obtain ⟨c, rfl⟩ := hρ
    have hk := List.mem_range.mp hk
    refine ⟨[.val (stD s), .val (.int i), .val (lkD (lkAt s i)), .val (.int ((i + 1 + k : Nat) : Int))], rfl, ?_⟩
    rw [fc_in c1 (show i + 1 + k < s.length by omega)]
    split <;> exact ⟨_, rfl, _, rfl⟩)
  refine ⟨c', e.trans ?_⟩
  unfold inn
  split <;> rename_i h <;> rw [h]
theorem fc_all (c1 : SpClashing Δ1) (hl : s.length ≤ 1000) : Rt 1 (fcD (fcs s)) (denSs Δ1 G B_first_clash [.val (stD s), .un, .un, .un]) := by
  show Rt 1 _ (denSs Δ1 G (.cons (.for_ (.tp (.cons (.nm 1) (.cons (.nm 2) .nil))) (.enm (.var 0)) (.cons (.for_ (.nm 3) (.rng2 (.bin .add (.var 1) (.int 1)) (.lenv 0)) bIn) .nil)) (.cons (.ret .non) .nil)) [.val (stD s), .un, .un, .un])
  rw [ss_cons, s_forE (d := stD s) (ds := s.map lkD) (ρ1 := [.val (stD s), .un, .un, .un]) rfl rfl, enumD_map]
  obtain ⟨ρ', ⟨a, b, c, rfl⟩, e⟩ := for_find (p := .tp (.cons (.nm 1) (.cons (.nm 2) .nil))) (body := denSs Δ1 G (.cons (.for_ (.nm 3) (.rng2 (.bin .add (.var 1) (.int 1)) (.lenv 0)) bIn) .nil)) (fun i : Nat => PyData.tuple [.int ((0 + i : Nat) : Int), (s[i]?.map lkD).getD .none]) (fun i => (inn s i).isSome) (fun i => plD (i, i + 1 + (inn s i).getD 0)) (I4 s) (List.range s.length) [.val (stD s), .un, .un, .un] ⟨_, _, _, rfl⟩ (fun i hi ρ hρ => by
    obtain ⟨a, b, c, rfl⟩ := hρ
    have hi := List.mem_range.mp hi
    refine ⟨[.val (stD s), .val (.int i), .val (lkD (lkAt s i)), c], ?_, ?_⟩
    · rw [lk_at hi, Nat.zero_add]; rfl
    · obtain ⟨c', e⟩ := fc_row (Δ1 := Δ1) (G := G) c1 hl hi c
      rw [ss_cons, e]
      cases h : inn s i with
      | none => exact ⟨_, rfl, _, _, _, rfl⟩
      | some k => exact ⟨_, rfl, _, _, _, rfl⟩)
  rw [e]
  unfold fcs
  cases h : (List.range s.length).find? fun i => (inn s i).isSome with
  | none => exact Rt.of rfl (by simp)
  | some i => exact Rt.of rfl (by simp)
end
def SpFirst (Δ : Nat → Fn) : Prop := ∀ (s : List Lk) ρ, s.length ≤ 1000 → callD (Δ i_first_clash) false [.dat (stD s)] ρ = .ok (fcD (fcs s)) ρ
theorem sp_first {Δ Δ1 : Nat → Fn} {G : List (Str × D)} (h : Δ i_first_clash = F_first_clash.fn Δ1 G) (c1 : SpClashing Δ1) : SpFirst Δ := fun s ρ hl =>
  call_rt (ds := [stD s]) h rfl (fc_all c1 hl) ρ
structure SpClash (Δ : Nat → Fn) : Prop where
  ok : ∀ (r c : Nat) s ρ, isSz (szD r c) = true → isSt r c (stD s) = true → s.length ≤ 1000 → callD (Δ i_clash) false [.dat (szD r c), .dat (stD s)] ρ = .ok (fcD (fcs s)) ρ
  no : ∀ (r c : Nat) d ρ, isSz (szD r c) = true → isSt r c d = false → callD (Δ i_clash) false [.dat (szD r c), .dat d] ρ = .exc .story ρ
  sz : ∀ s d ρ, isSz s = false → callD (Δ i_clash) false [.dat s, .dat d] ρ = .exc .size ρ
theorem sp_clash {Δ Δ1 : Nat → Fn} {G : List (Str × D)} (h : Δ i_clash = F_clash.fn Δ1 G) (c1 : SpNeedLooks Δ1) (c2 : SpFirst Δ1) : SpClash Δ := by
  refine ⟨fun r c s ρ hs hd hl => call_rt (ds := [szD r c, stD s]) h rfl ?_ ρ, fun r c d ρ hs hd => call_xc (ds := [szD r c, d]) h rfl ?_ ρ, fun s d ρ hs => call_xc (ds := [s, d]) h rfl ?_ ρ⟩
  · have e1 := fun ρ => c1.ok r c (stD s) ρ hs hd
    have e2 := fun ρ => c2 s ρ hl
    show Rt 2 _ (denSs Δ1 G B_clash [.val (szD r c), .val (stD s)])
    unfold B_clash
    simp [denSs, denS, den, dens, denAnd, denOr, denO, denA, denI, denT, denF, setR, ifR, bin2, un1, notD, chain2, andB, orB, iteB, tupR, lstR, consR, consG, datR, sloR, argSl, bltR, isiR, rdv, ixvR, held, isUn, subS, lenvR, lenS, callR, SR.seq, Res.to, B2.den, add_i, sub_i, C2.den, icmp, negD, itR, itsD, e1, e2]
  · have e1 := fun ρ => c1.no r c d ρ hs hd
    show Xc 2 .story (denSs Δ1 G B_clash [.val (szD r c), .val d])
    unfold B_clash
    simp [denSs, denS, den, dens, denAnd, denOr, denO, denA, denI, denT, denF, setR, ifR, bin2, un1, notD, chain2, andB, orB, iteB, tupR, lstR, consR, consG, datR, sloR, argSl, bltR, isiR, rdv, ixvR, held, isUn, subS, lenvR, lenS, callR, SR.seq, Res.to, B2.den, add_i, sub_i, C2.den, icmp, negD, itR, itsD, e1]
  · have e1 := fun ρ => c1.sz s d ρ hs
    show Xc 2 .size (denSs Δ1 G B_clash [.val s, .val d])
    unfold B_clash
    simp [denSs, denS, den, dens, denAnd, denOr, denO, denA, denI, denT, denF, setR, ifR, bin2, un1, notD, chain2, andB, orB, iteB, tupR, lstR, consR, consG, datR, sloR, argSl, bltR, isiR, rdv, ixvR, held, isUn, subS, lenvR, lenS, callR, SR.seq, Res.to, B2.den, add_i, sub_i, C2.den, icmp, negD, itR, itsD, e1]
structure SpNeedStory (Δ : Nat → Fn) : Prop where
  ok : ∀ (r c : Nat) s ρ, isSz (szD r c) = true → isSt r c (stD s) = true → s.length ≤ 1000 → fcs s = none → callD (Δ i_need_story) false [.dat (szD r c), .dat (stD s)] ρ = .ok .none ρ
  cl : ∀ (r c : Nat) s ρ, isSz (szD r c) = true → isSt r c (stD s) = true → s.length ≤ 1000 → (fcs s).isSome = true → callD (Δ i_need_story) false [.dat (szD r c), .dat (stD s)] ρ = .exc .clash ρ
  no : ∀ (r c : Nat) d ρ, isSz (szD r c) = true → isSt r c d = false → callD (Δ i_need_story) false [.dat (szD r c), .dat d] ρ = .exc .story ρ
theorem sp_needstory {Δ Δ1 : Nat → Fn} {G : List (Str × D)} (h : Δ i_need_story = F_need_story.fn Δ1 G) (c1 : SpNeedLooks Δ1) (c2 : SpFirst Δ1) : SpNeedStory Δ := by
  refine ⟨fun r c s ρ hs hd hl hf => call_nx (ds := [szD r c, stD s]) h rfl ?_ ρ, fun r c s ρ hs hd hl hf => call_xc (ds := [szD r c, stD s]) h rfl ?_ ρ, fun r c d ρ hs hd => call_xc (ds := [szD r c, d]) h rfl ?_ ρ⟩
  · have e1 := fun ρ => c1.ok r c (stD s) ρ hs hd
    have e2 := fun ρ => c2 s ρ hl
    rw [hf] at e2
    show Nx 2 (denSs Δ1 G B_need_story [.val (szD r c), .val (stD s)])
    unfold B_need_story
    simp [denSs, denS, den, dens, denAnd, denOr, denO, denA, denI, denT, denF, setR, ifR, bin2, un1, notD, chain2, andB, orB, iteB, tupR, lstR, consR, consG, datR, sloR, argSl, bltR, isiR, rdv, ixvR, held, isUn, subS, lenvR, lenS, callR, SR.seq, Res.to, B2.den, add_i, sub_i, C2.den, icmp, negD, itR, itsD, e1, e2, fcD, notnD, isNone]
  · have e1 := fun ρ => c1.ok r c (stD s) ρ hs hd
    have e2 := fun ρ => c2 s ρ hl
    obtain ⟨x, hx⟩ := Option.isSome_iff_exists.mp hf
    rw [hx] at e2
    show Xc 2 .clash (denSs Δ1 G B_need_story [.val (szD r c), .val (stD s)])
    unfold B_need_story
    simp [denSs, denS, den, dens, denAnd, denOr, denO, denA, denI, denT, denF, setR, ifR, bin2, un1, notD, chain2, andB, orB, iteB, tupR, lstR, consR, consG, datR, sloR, argSl, bltR, isiR, rdv, ixvR, held, isUn, subS, lenvR, lenS, callR, SR.seq, Res.to, B2.den, add_i, sub_i, C2.den, icmp, negD, itR, itsD, e1, e2, fcD, notnD, isNone, plD]
  · have e1 := fun ρ => c1.no r c d ρ hs hd
    show Xc 2 .story (denSs Δ1 G B_need_story [.val (szD r c), .val d])
    unfold B_need_story
    simp [denSs, denS, den, dens, denAnd, denOr, denO, denA, denI, denT, denF, setR, ifR, bin2, un1, notD, chain2, andB, orB, iteB, tupR, lstR, consR, consG, datR, sloR, argSl, bltR, isiR, rdv, ixvR, held, isUn, subS, lenvR, lenS, callR, SR.seq, Res.to, B2.den, add_i, sub_i, C2.den, icmp, negD, itR, itsD, e1]
end Dm
namespace Dm
open PySem PySem.Spec PyProof.Rows L2 LamX
/-! ### tables as functions; places -/
def rowD (c : Nat) (f : Nat → Int) : D := .tuple ((List.range c).map fun j => .int (f j))
def tbD (r c : Nat) (e : Nat → Nat → Int) : D := .tuple ((List.range r).map fun i => rowD c (e i))
def plsD (ps : List Pl) : List D := ps.map plD
def allP (r c : Nat) : List Pl := (List.range r).flatMap fun i => (List.range c).map fun j => (i, j)
theorem mem_allP {r c : Nat} {p : Pl} : p ∈ allP r c ↔ inSz r c p := by
  simp only [allP, List.mem_flatMap, List.mem_map, List.mem_range, inSz]
  constructor
  · rintro ⟨i, hi, j, hj, rfl⟩; exact ⟨hi, hj⟩
  · rintro ⟨h1, h2⟩; exact ⟨p.1, h1, p.2, h2, rfl⟩
theorem tb_row {r c : Nat} {e : Nat → Nat → Int} {i : Nat} (hi : i < r) : ixD (tbD r c e) (.int i) = some (rowD c (e i)) := by
  show atI _ (i : Int) = _
  rw [atI_nat, List.getElem?_map, List.getElem?_range hi]; rfl
theorem row_at {c : Nat} {f : Nat → Int} {j : Nat} (hj : j < c) : ixD (rowD c f) (.int j) = some (.int (f j)) := by
  show atI _ (j : Int) = _
  rw [atI_nat, List.getElem?_map, List.getElem?_range hj]; rfl
theorem tb_len (r c : Nat) (e : Nat → Nat → Int) : Bt.len.den [tbD r c e] = some (.int r) := by
  simp [Bt.den, tbD]
theorem row_len (c : Nat) (f : Nat → Int) : Bt.len.den [rowD c f] = some (.int c) := by
  simp [Bt.den, rowD]
theorem tb_row0 {r c : Nat} {e : Nat → Nat → Int} (hr : 1 ≤ r) : ixD (tbD r c e) (.int 0) = some (rowD c (e 0)) := tb_row hr
theorem sz_0 (r c : Nat) : ixD (szD r c) (.int 0) = some (.int r) := rfl
theorem sz_1 (r c : Nat) : ixD (szD r c) (.int 1) = some (.int c) := rfl
theorem pl_0 (p : Pl) : ixD (plD p) (.int 0) = some (.int p.1) := rfl
theorem pl_1 (p : Pl) : ixD (plD p) (.int 1) = some (.int p.2) := rfl
def SpSizeOf (Δ : Nat → Fn) : Prop := ∀ (r c : Nat) e ρ, 1 ≤ r → callD (Δ i_size_of) false [.dat (tbD r c e)] ρ = .ok (szD r c) ρ
theorem sp_sizeof {Δ Δ1 : Nat → Fn} {G : List (Str × D)} (h : Δ i_size_of = F_size_of.fn Δ1 G) : SpSizeOf Δ := fun r c e ρ hr => by
  refine call_rt (ds := [tbD r c e]) h rfl ?_ ρ
  show Rt 1 _ (denSs Δ1 G B_size_of [.val (tbD r c e)])
  unfold B_size_of szD
  simp [denSs, denS, den, dens, denAnd, denOr, denO, denA, denI, denT, denF, setR, ifR, bin2, un1, notD, chain2, andB, orB, iteB, tupR, lstR, consR, consG, datR, sloR, argSl, bltR, isiR, rdv, ixvR, held, isUn, subS, lenvR, lenS, callR, SR.seq, Res.to, B2.den, add_i, sub_i, C2.den, icmp, negD, itR, itsD, tb_row0 hr, tb_len, row_len]
def SpAt (Δ : Nat → Fn) : Prop := ∀ (r c : Nat) e (p : Pl) ρ, inSz r c p → callD (Δ i_at) false [.dat (tbD r c e), .dat (plD p)] ρ = .ok (.int (e p.1 p.2)) ρ
theorem sp_at {Δ Δ1 : Nat → Fn} {G : List (Str × D)} (h : Δ i_at = F_at.fn Δ1 G) : SpAt Δ := fun r c e p ρ hp => by
  refine call_rt (ds := [tbD r c e, plD p]) h rfl ?_ ρ
  show Rt 2 _ (denSs Δ1 G B_at [.val (tbD r c e), .val (plD p)])
  unfold B_at
  simp [denSs, denS, den, dens, denAnd, denOr, denO, denA, denI, denT, denF, setR, ifR, bin2, un1, notD, chain2, andB, orB, iteB, tupR, lstR, consR, consG, datR, sloR, argSl, bltR, isiR, rdv, ixvR, held, isUn, subS, lenvR, lenS, callR, SR.seq, Res.to, B2.den, add_i, sub_i, C2.den, icmp, negD, itR, itsD, tb_row hp.1, row_at hp.2, pl_0, pl_1]
def ansOf (e : Nat → Nat → Int) (x : Int) (p : Pl) : An := if e p.1 p.2 < x then .le else if x < e p.1 p.2 then .gr else .eq
def SpLAnswer (Δ : Nat → Fn) : Prop := ∀ (r c : Nat) e (p : Pl) x ρ, inSz r c p → callD (Δ i__law_answer) false [.dat (tbD r c e), .dat (plD p), .dat (.int x)] ρ = .ok (.str (ansOf e x p).s) ρ
theorem sp_lanswer {Δ Δ1 : Nat → Fn} {G : List (Str × D)} (h : Δ i__law_answer = F__law_answer.fn Δ1 G) : SpLAnswer Δ := fun r c e p x ρ hp => by
  refine call_rt (ds := [tbD r c e, plD p, .int x]) h rfl ?_ ρ
  show Rt 3 _ (denSs Δ1 G B__law_answer [.val (tbD r c e), .val (plD p), .val (.int x), .un])
  unfold B__law_answer ansOf
  by_cases h1 : e p.1 p.2 < x
  · simp [denSs, denS, den, dens, denAnd, denOr, denO, denA, denI, denT, denF, setR, ifR, bin2, un1, notD, chain2, andB, orB, iteB, tupR, lstR, consR, consG, datR, sloR, argSl, bltR, isiR, rdv, ixvR, held, isUn, subS, lenvR, lenS, callR, SR.seq, Res.to, B2.den, add_i, sub_i, C2.den, icmp, negD, itR, itsD, tb_row hp.1, row_at hp.2, pl_0, pl_1, h1, An.s]
  · by_cases h2 : x < e p.1 p.2
    · simp [denSs, denS, den, dens, denAnd, denOr, denO, denA, denI, denT, denF, setR, ifR, bin2, un1, notD, chain2, andB, orB, iteB, tupR, lstR, consR, consG, datR, sloR, argSl, bltR, isiR, rdv, ixvR, held, isUn, subS, lenvR, lenS, callR, SR.seq, Res.to, B2.den, add_i, sub_i, C2.den, icmp, negD, itR, itsD, tb_row hp.1, row_at hp.2, pl_0, pl_1, h1, h2, An.s]
    · simp [denSs, denS, den, dens, denAnd, denOr, denO, denA, denI, denT, denF, setR, ifR, bin2, un1, notD, chain2, andB, orB, iteB, tupR, lstR, consR, consG, datR, sloR, argSl, bltR, isiR, rdv, ixvR, held, isUn, subS, lenvR, lenS, callR, SR.seq, Res.to, B2.den, add_i, sub_i, C2.den, icmp, negD, itR, itsD, tb_row hp.1, row_at hp.2, pl_0, pl_1, h1, h2, An.s]
theorem tup_ij (i j : Nat) : PyData.tuple [.int (i : Int), .int (j : Int)] = plD (i, j) := rfl
theorem allP_len (r c : Nat) (hr : r ≤ 1000) (hc : c ≤ 1000) : (allP r c).length ≤ 1000000 := by
  have : (allP r c).length = r * c := by
    clear hr hc
    induction r with
    | zero => simp [allP]
    | succ r ih =>
      unfold allP at ih ⊢
      rw [List.range_succ, List.flatMap_append, List.length_append, ih, Nat.succ_mul]
      simp
  rw [this]
  exact Nat.mul_le_mul hr hc
theorem add_list (xs ys : List D) (h : xs.length + ys.length ≤ 2000000) : addD (.list xs) (.list ys) = some (.list (xs ++ ys)) := by
  show (if _ then _ else _) = _
  rw [if_pos (Nat.le_trans h (by rw [sizeLine_eq]; decide))]
theorem add_tup (xs ys : List D) (h : xs.length + ys.length ≤ 2000000) : addD (.tuple xs) (.tuple ys) = some (.tuple (xs ++ ys)) := by
  show (if _ then _ else _) = _
  rw [if_pos (Nat.le_trans h (by rw [sizeLine_eq]; decide))]
/-- the places of a size, by a loop -/
theorem places_run (nm : Str) (Δ1 : Nat → Fn) (G : List (Str × D)) (r c : Nat) (hr : r ≤ 4) (hc : c ≤ 4) : Rt 1 (.list (plsD (allP r c))) (denSs Δ1 G (.cons (.setL 1) (.cons (.for_ (.nm 2) (.rng1 (.ixv 0 (.int 0))) (.cons (.set 1 (.bin .add (.var 1) (.comp (.nm 3) [(nm, 3)] (.rng1 (.ixv 0 (.int 1))) .yes (.tup (.cons (.var 2) (.cons (.var 3) .nil)))))) .nil)) (.cons (.ret (.var 1)) .nil))) [.val (szD r c), .un, .un, .un]) := by
  rw [ss_nx (ρ1 := [.val (szD r c), .own false [], .un, .un]) rfl, ss_cons, s_for1 (n := r) (ρ1 := [.val (szD r c), .own false [], .un, .un]) (by simp [denSs, denS, den, dens, denAnd, denOr, denO, denA, denI, denT, denF, setR, ifR, bin2, un1, notD, chain2, andB, orB, iteB, tupR, lstR, consR, consG, datR, sloR, argSl, bltR, isiR, rdv, ixvR, held, isUn, subS, lenvR, lenS, callR, SR.seq, Res.to, B2.den, add_i, sub_i, C2.den, icmp, negD, itR, itsD, sz_0]) (by omega)]
  obtain ⟨ρ', e1, e2⟩ := for_inv (p := .nm 2) (body := denSs Δ1 G (.cons (.set 1 (.bin .add (.var 1) (.comp (.nm 3) [(nm, 3)] (.rng1 (.ixv 0 (.int 1))) .yes (.tup (.cons (.var 2) (.cons (.var 3) .nil)))))) .nil)) (fun i : Nat => PyData.int (i : Int))
    (fun n ρ => n ≤ r → (∃ f b, (f = .own false (plsD (allP n c)) ∧ n = 0 ∨ f = .val (.list (plsD (allP n c)))) ∧ ρ = [.val (szD r c), f, b, .un])) (List.range r) [.val (szD r c), .own false [], .un, .un]
    (fun _ => ⟨_, _, .inl ⟨rfl, rfl⟩, rfl⟩) (fun n x ρ hx hI => by
      have hn : n < r := by
        have := (List.getElem?_eq_some_iff.mp hx).1
        simpa using this
      have hx : x = n := by
        rw [List.getElem?_range hn] at hx
        exact (Option.some.inj hx).symm
      subst hx
      obtain ⟨f, b, hf, rfl⟩ := hI (by omega)
      refine ⟨[.val (szD r c), f, .val (.int x), .un], [.val (szD r c), .val (.list (plsD (allP (x + 1) c))), .val (.int x), .un], rfl, ?_, fun _ => ⟨_, _, .inr rfl, rfl⟩⟩
      have hrd : rdv 1 [.val (szD r c), f, .val (.int x), .un] = .ok (.list (plsD (allP x c))) [.val (szD r c), .val (.list (plsD (allP x c))), .val (.int x), .un] := by
        rcases hf with ⟨rfl, _⟩ | rfl <;> rfl
      have hcm : den Δ1 G (.comp (.nm 3) [(nm, 3)] (.rng1 (.ixv 0 (.int 1))) .yes (.tup (.cons (.var 2) (.cons (.var 3) .nil)))) [.val (szD r c), .val (.list (plsD (allP x c))), .val (.int x), .un] = .ok (.list ((List.range c).map fun j => plD (x, j))) [.val (szD r c), .val (.list (plsD (allP x c))), .val (.int x), .un] := by
        refine comp_nm (List.range c) (fun j : Nat => .int (j : Int)) _ rfl (rng1_ok (by simp [denSs, denS, den, dens, denAnd, denOr, denO, denA, denI, denT, denF, setR, ifR, bin2, un1, notD, chain2, andB, orB, iteB, tupR, lstR, consR, consG, datR, sloR, argSl, bltR, isiR, rdv, ixvR, held, isUn, subS, lenvR, lenS, callR, SR.seq, Res.to, B2.den, add_i, sub_i, C2.den, icmp, negD, itR, itsD, sz_1]) (by omega)) (by rw [List.length_range]; omega) (fun j hj => ?_)
        simp [denSs, denS, den, dens, denAnd, denOr, denO, denA, denI, denT, denF, setR, ifR, bin2, un1, notD, chain2, andB, orB, iteB, tupR, lstR, consR, consG, datR, sloR, argSl, bltR, isiR, rdv, ixvR, held, isUn, subS, lenvR, lenS, callR, SR.seq, Res.to, B2.den, add_i, sub_i, C2.den, icmp, negD, itR, itsD, tup_ij]
      have hl1 := allP_len x c (by omega) (by omega)
      have happ : addD (.list (plsD (allP x c))) (.list ((List.range c).map fun j => plD (x, j))) = some (.list (plsD (allP (x + 1) c))) := by
        rw [add_list _ _ (by simp only [plsD, List.length_map, List.length_range]; omega)]
        simp [plsD, allP, List.range_succ, List.flatMap_append, List.map_map, Function.comp_def]
      rw [ss_nx (s_set (d := .list (plsD (allP (x + 1) c))) (ρ1 := [.val (szD r c), .val (.list (plsD (allP x c))), .val (.int x), .un]) ?hd)]
      · rfl
      case hd =>
        show bin2 _ _ _ _ = _
        unfold bin2
        rw [show den Δ1 G (.var 1) [.val (szD r c), f, .val (.int x), .un] = _ from hrd, Res.bind_ok, hcm, Res.bind_ok]
        rw [show B2.add.den = addD from rfl, happ]; rfl)
  rw [e1]
  rw [List.length_range] at e2
  obtain ⟨f, b, hf, rfl⟩ := e2 (Nat.le_refl _)
  show Rt 1 _ (denSs Δ1 G (.cons (.ret (.var 1)) .nil) _)
  rcases hf with ⟨rfl, h0⟩ | rfl
  · rw [ss_rt (s_ret (d := .list (plsD (allP r c))) (ρ1 := [.val (szD r c), .val (.list (plsD (allP r c))), b, .un]) rfl)]
    exact Rt.of rfl (by simp)
  · rw [ss_rt (s_ret (d := .list (plsD (allP r c))) (ρ1 := [.val (szD r c), .val (.list (plsD (allP r c))), b, .un]) rfl)]
    exact Rt.of rfl (by simp)
def SpPlaces (Δ : Nat → Fn) : Prop := ∀ (r c : Nat) ρ, r ≤ 4 → c ≤ 4 → callD (Δ i_all_places) false [.dat (szD r c)] ρ = .ok (.list (plsD (allP r c))) ρ
theorem sp_places {Δ Δ1 : Nat → Fn} {G : List (Str × D)} (h : Δ i_all_places = F_all_places.fn Δ1 G) : SpPlaces Δ := fun r c ρ hr hc =>
  call_rt (ds := [szD r c]) h rfl (places_run "column" Δ1 G r c hr hc) ρ
def SpLPlaces (Δ : Nat → Fn) : Prop := ∀ (r c : Nat) ρ, r ≤ 4 → c ≤ 4 → callD (Δ i__law_places) false [.dat (szD r c)] ρ = .ok (.list (plsD (allP r c))) ρ
theorem sp_lplaces {Δ Δ1 : Nat → Fn} {G : List (Str × D)} (h : Δ i__law_places = F__law_places.fn Δ1 G) : SpLPlaces Δ := fun r c ρ hr hc =>
  call_rt (ds := [szD r c]) h rfl (places_run "_law_column" Δ1 G r c hr hc) ρ
end Dm
namespace Dm
open PySem PySem.Spec PyProof.Rows L2 LamX
/-! ### any table -/
structure Good (e : Nat → Nat → Int) (i j : Nat) : Prop where
  lo : -19 ≤ e i j
  hi : e i j ≤ 60 * ((i : Int) + j + 1) - 20
  left : 0 < j → e i (j - 1) < e i j
  up : 0 < i → e (i - 1) j < e i j
def updE (e : Nat → Nat → Int) (n m : Nat) (v : Int) : Nat → Nat → Int := fun i j => if i = n ∧ j = m then v else e i j
theorem updE_ne {e : Nat → Nat → Int} {n m i j : Nat} {v : Int} (h : ¬ (i = n ∧ j = m)) : updE e n m v i j = e i j := if_neg h
theorem updE_eq (e : Nat → Nat → Int) (n m : Nat) (v : Int) : updE e n m v n m = v := if_pos ⟨rfl, rfl⟩
theorem Good.upd {e : Nat → Nat → Int} {n m i j : Nat} {v : Int} (g : Good e i j) (h : ¬ (i = n ∧ j = m)) (h1 : 0 < j → ¬ (i = n ∧ j - 1 = m)) (h2 : 0 < i → ¬ (i - 1 = n ∧ j = m)) : Good (updE e n m v) i j :=
  ⟨by rw [updE_ne h]; exact g.lo, by rw [updE_ne h]; exact g.hi, fun z => by rw [updE_ne h, updE_ne (h1 z)]; exact g.left z, fun z => by rw [updE_ne h, updE_ne (h2 z)]; exact g.up z⟩
def rowsD (n c : Nat) (e : Nat → Nat → Int) : List D := (List.range n).map fun i => .list ((List.range c).map fun j => .int (e i j))
def entD (n m : Nat) (e : Nat → Nat → Int) : List D := (List.range m).map fun j => .int (e n j)
theorem rows_upd {n c m : Nat} {e : Nat → Nat → Int} {v : Int} : rowsD n c (updE e n m v) = rowsD n c e :=
  List.map_congr_left fun i hi => by
    have := List.mem_range.mp hi
    rw [List.map_congr_left fun j hj => by rw [updE_ne (show ¬ (i = n ∧ j = m) by omega)]]
theorem ent_upd {n m : Nat} {e : Nat → Nat → Int} {v : Int} : entD n (m + 1) (updE e n m v) = entD n m e ++ [.int v] := by
  unfold entD
  rw [List.range_succ, List.map_append, List.map_cons, List.map_nil, updE_eq]
  congr 1
  exact List.map_congr_left fun j hj => by
    have := List.mem_range.mp hj
    rw [updE_ne (by omega)]
theorem rows_at {n c : Nat} {e : Nat → Nat → Int} {i : Nat} (hi : i < n) : ixD (.list (rowsD n c e)) (.int (i : Int)) = some (.list (entD i c e)) := by
  show atI _ _ = _
  rw [atI_nat]
  simp [rowsD, entD, List.getElem?_range hi]
theorem ent_at {n m : Nat} {e : Nat → Nat → Int} {j : Nat} (hj : j < m) : ixD (.list (entD n m e)) (.int (j : Int)) = some (.int (e n j)) := by
  show atI _ _ = _
  rw [atI_nat]
  simp [entD, List.getElem?_range hj]
theorem ent_last {n m : Nat} {e : Nat → Nat → Int} (hm : 0 < m) : ixD (.list (entD n m e)) (.int (-1)) = some (.int (e n (m - 1))) := by
  show atI _ _ = _
  unfold atI ixN
  have hl : (entD n m e).length = m := by simp [entD]
  rw [hl, if_neg (by omega), if_pos (by omega), Option.bind_some, show (-1 + (m : Int)).toNat = m - 1 by omega]
  simp [entD, List.getElem?_range (show m - 1 < m by omega)]
def NO (s : Sl) : Prop := s.isO = false
def tIn : ISs := .cons (.set 7 (.ite (.cmp .gt (.var 4) (.int 0)) (.ix (.ixv 3 (.bin .sub (.var 4) (.int 1))) (.var 6)) (.neg (.int 20)))) (.cons (.set 8 (.blt .max (.cons (.var 7) (.cons (.ite (.cmp .gt (.var 6) (.int 0)) (.ixv 5 (.neg (.int 1))) (.neg (.int 20))) .nil)))) (.cons (.app 5 (.bin .add (.bin .add (.var 8) (.int 1)) (.call 8 false (.slo 0 (.val (.var 2) .nil))))) .nil))
section
variable {Δ : Nat → Fn} {G : List (Str × D)}
theorem tin_ok (Dc : DiceOk Δ) {c0 k0 st : Int} {r c n m : Nat} {e : Nat → Nat → Int} {a b : Sl} (hst : 1 ≤ st ∧ st ≤ 60) (hn : n ≤ 4) (hm : m < c) (hc : c ≤ 4) (hlo : 0 < n → -19 ≤ e (n - 1) m) : ∃ (v : Int) (c1 k1 : Int) (a' b' : Sl),
    denSs Δ G tIn [.own true [.int c0, .int k0], .val (szD r c), .val (.int st), .own false (rowsD n c e), .val (.int n), .own false (entD n m e), .val (.int m), a, b] = .nx [.own true [.int c1, .int k1], .val (szD r c), .val (.int st), .own false (rowsD n c e), .val (.int n), .own false (entD n m e ++ [.int v]), .val (.int m), a', b'] ∧
    (0 < n → e (n - 1) m < v) ∧ (0 < m → e n (m - 1) < v) ∧ -19 ≤ v ∧ (∀ u : Int, (-20 ≤ u) → (0 < n → e (n - 1) m ≤ u) → (0 < m → e n (m - 1) ≤ u) → v ≤ u + 60) := by
  obtain ⟨A, hA⟩ : ∃ A : Int, A = if 0 < n then e (n - 1) m else -20 := ⟨_, rfl⟩
  obtain ⟨B, hB⟩ : ∃ B : Int, B = if 0 < m then e n (m - 1) else -20 := ⟨_, rfl⟩
  obtain ⟨v, c1, k1, hv, er⟩ := roll_call Dc (ρ := [.own true [.int c0, .int k0], .val (szD r c), .val (.int st), .own false (rowsD n c e), .val (.int n), .own false (entD n m e), .val (.int m), .val (.int A), .val (.int (max A B))]) (j := 0) (fx := true) (m := st) rfl (by omega) ((Nat.log2_lt (by omega)).mpr (Nat.lt_of_le_of_lt (show st.natAbs ≤ 60 by omega) (by decide)))
  refine ⟨max A B + 1 + v, c1, k1, .val (.int A), .val (.int (max A B)), ?_, fun h => ?_, fun h => ?_, ?_, fun u h0 h1 h2 => ?_⟩
  · unfold tIn
    rw [ss_nx (s_set (d := .int A) (ρ1 := [.own true [.int c0, .int k0], .val (szD r c), .val (.int st), .own false (rowsD n c e), .val (.int n), .own false (entD n m e), .val (.int m), a, b]) ?h1)]
    rw [ss_nx (s_set (d := .int (max A B)) (ρ1 := [.own true [.int c0, .int k0], .val (szD r c), .val (.int st), .own false (rowsD n c e), .val (.int n), .own false (entD n m e), .val (.int m), .val (.int A), b]) ?h2)]
    case h1 =>
      by_cases h : 0 < n
      · have h' : (0 : Int) < n := by omega
        rw [if_pos h] at hA
        have e1 := rows_at (c := c) (e := e) (show n - 1 < n by omega)
        have e2 := ent_at (n := n - 1) (e := e) hm
        rw [show ((n - 1 : Nat) : Int) = (n : Int) - 1 by omega] at e1
        simp [denSs, denS, den, dens, denAnd, denOr, denO, denA, denI, denT, denF, setR, ifR, bin2, un1, notD, chain2, andB, orB, iteB, tupR, lstR, consR, consG, datR, sloR, argSl, bltR, isiR, rdv, ixvR, held, isUn, subS, lenvR, lenS, callR, SR.seq, Res.to, B2.den, add_i, sub_i, C2.den, icmp, negD, itR, itsD, h', h, e1, e2, hA]
      · have h' : ¬ (0 : Int) < n := by omega
        rw [if_neg h] at hA
        simp [denSs, denS, den, dens, denAnd, denOr, denO, denA, denI, denT, denF, setR, ifR, bin2, un1, notD, chain2, andB, orB, iteB, tupR, lstR, consR, consG, datR, sloR, argSl, bltR, isiR, rdv, ixvR, held, isUn, subS, lenvR, lenS, callR, SR.seq, Res.to, B2.den, add_i, sub_i, C2.den, icmp, negD, itR, itsD, h', h, hA]
    case h2 =>
      by_cases h : 0 < m
      · have h' : (0 : Int) < m := by omega
        rw [if_pos h] at hB
        have e1 := ent_last (n := n) (e := e) h
        simp [denSs, denS, den, dens, denAnd, denOr, denO, denA, denI, denT, denF, setR, ifR, bin2, un1, notD, chain2, andB, orB, iteB, tupR, lstR, consR, consG, datR, sloR, argSl, bltR, isiR, rdv, ixvR, held, isUn, subS, lenvR, lenS, callR, SR.seq, Res.to, B2.den, add_i, sub_i, C2.den, icmp, negD, itR, itsD, h', h, e1, hB, Bt.den]
      · have h' : ¬ (0 : Int) < m := by omega
        rw [if_neg h] at hB
        simp [denSs, denS, den, dens, denAnd, denOr, denO, denA, denI, denT, denF, setR, ifR, bin2, un1, notD, chain2, andB, orB, iteB, tupR, lstR, consR, consG, datR, sloR, argSl, bltR, isiR, rdv, ixvR, held, isUn, subS, lenvR, lenS, callR, SR.seq, Res.to, B2.den, add_i, sub_i, C2.den, icmp, negD, itR, itsD, h', h, hB, Bt.den]
    have hl : (entD n m e).length < 1000000 := by
      have : (entD n m e).length = m := by simp [entD]
      omega
    simp only [List.set_cons_succ, List.set_cons_zero] at er
    simp [denSs, denS, den, dens, denAnd, denOr, denO, denA, denI, denT, denF, setR, ifR, bin2, un1, notD, chain2, andB, orB, iteB, tupR, lstR, consR, consG, datR, sloR, argSl, bltR, isiR, rdv, ixvR, held, isUn, subS, lenvR, lenS, callR, SR.seq, Res.to, B2.den, add_i, sub_i, C2.den, icmp, negD, itR, itsD, appR, isOwnS, er, hl]
  · have : A = e (n - 1) m := by rw [hA, if_pos h]
    omega
  · have : B = e n (m - 1) := by rw [hB, if_pos h]
    omega
  · have : -20 ≤ A := by
      rw [hA]; split
      · have := hlo (by assumption); omega
      · omega
    omega
  · have hA' : A ≤ u := by
      rw [hA]; split
      · exact h1 (by assumption)
      · exact h0
    have hB' : B ≤ u := by
      rw [hB]; split
      · exact h2 (by assumption)
      · exact h0
    omega
/-- what stands of a table: rows n whole, m entries of row n -/
def Reg (c n m : Nat) (e : Nat → Nat → Int) : Prop := ∀ i j, (i < n ∧ j < c ∨ i = n ∧ j < m) → Good e i j
theorem row_ok (Dc : DiceOk Δ) {c0 k0 st : Int} {r c n : Nat} {e : Nat → Nat → Int} {a b d : Sl} (hst : 1 ≤ st ∧ st ≤ 60) (hn : n ≤ 3) (hc1 : 1 ≤ c) (hc : c ≤ 4) (hR : Reg c n 0 e) : ∃ (c1 k1 : Int) (a' b' d' : Sl) (e' : Nat → Nat → Int),
    denS Δ G (.for_ (.nm 6) (.rng1 (.ixv 1 (.int 1))) tIn) [.own true [.int c0, .int k0], .val (szD r c), .val (.int st), .own false (rowsD n c e), .val (.int n), .own false [], d, a, b] = .nx [.own true [.int c1, .int k1], .val (szD r c), .val (.int st), .own false (rowsD n c e'), .val (.int n), .own false (entD n c e'), d', a', b'] ∧ Reg c (n + 1) 0 e' := by
  rw [s_for1 (n := c) (ρ1 := [.own true [.int c0, .int k0], .val (szD r c), .val (.int st), .own false (rowsD n c e), .val (.int n), .own false [], d, a, b]) (by simp [denSs, denS, den, dens, denAnd, denOr, denO, denA, denI, denT, denF, setR, ifR, bin2, un1, notD, chain2, andB, orB, iteB, tupR, lstR, consR, consG, datR, sloR, argSl, bltR, isiR, rdv, ixvR, held, isUn, subS, lenvR, lenS, callR, SR.seq, Res.to, B2.den, add_i, sub_i, C2.den, icmp, negD, itR, itsD, sz_1]) (by omega)]
  obtain ⟨ρ', e1, c1, k1, a', b', d', e', rfl, hR'⟩ := for_inv (p := .nm 6) (body := denSs Δ G tIn) (fun i : Nat => PyData.int (i : Int))
    (fun m ρ => ∃ (c1 k1 : Int) (a' b' d' : Sl) (e' : Nat → Nat → Int), ρ = [.own true [.int c1, .int k1], .val (szD r c), .val (.int st), .own false (rowsD n c e'), .val (.int n), .own false (entD n m e'), d', a', b'] ∧ Reg c n m e') (List.range c) [.own true [.int c0, .int k0], .val (szD r c), .val (.int st), .own false (rowsD n c e), .val (.int n), .own false [], d, a, b]
    ⟨c0, k0, a, b, d, e, rfl, hR⟩ (fun m x ρ hx hI => by
      have hm : m < c := by
        have := (List.getElem?_eq_some_iff.mp hx).1
        simpa using this
      have hx : x = m := by
        rw [List.getElem?_range hm] at hx
        exact (Option.some.inj hx).symm
      subst hx
      obtain ⟨c1, k1, a1, b1, d1, e1, rfl, hR1⟩ := hI
      obtain ⟨v, c2, k2, a2, b2, ev, g1, g2, g3, g4⟩ := tin_ok (G := G) Dc (c0 := c1) (k0 := k1) (r := r) (e := e1) (a := a1) (b := b1) hst (show n ≤ 4 by omega) hm hc (fun h => (hR1 (n - 1) x (.inl ⟨by omega, hm⟩)).lo)
      refine ⟨_, _, rfl, ev, c2, k2, a2, b2, .val (.int x), updE e1 n x v, ?_, ?_⟩
      · rw [rows_upd, ent_upd]
      · rintro i j hij
        by_cases h : i = n ∧ j = x
        · obtain ⟨rfl, rfl⟩ := h
          refine ⟨by rw [updE_eq]; exact g3, ?_, fun h => ?_, fun h => ?_⟩
          · rw [updE_eq]
            have := g4 (60 * ((i : Int) + j + 1) - 80) (by omega) (fun h => by
              have := (hR1 (i - 1) j (.inl ⟨by omega, hm⟩)).hi
              omega) (fun h => by
              have := (hR1 i (j - 1) (.inr ⟨rfl, by omega⟩)).hi
              omega)
            omega
          · rw [updE_eq, updE_ne (by omega)]
            exact g2 h
          · rw [updE_eq, updE_ne (by omega)]
            exact g1 h
        · exact (hR1 i j (by omega)).upd h (by omega) (by omega))
  rw [List.length_range] at hR' e1
  refine ⟨c1, k1, a', b', d', e', e1, ?_⟩
  exact fun i j h => hR' i j (by omega)
structure Tbl (r c : Nat) (e : Nat → Nat → Int) : Prop where
  lo : ∀ i j, i < r → j < c → -19 ≤ e i j
  hi : ∀ i j, i < r → j < c → e i j ≤ 400
  row : ∀ i j, i < r → j + 1 < c → e i j < e i (j + 1)
  col : ∀ i j, i + 1 < r → j < c → e i j < e (i + 1) j
theorem tab_run (Dc : DiceOk Δ) (c0 k0 : Int) (r c : Nat) (hr : 1 ≤ r ∧ r ≤ 4) (hc : 1 ≤ c ∧ c ≤ 4) : ∃ (e : Nat → Nat → Int) (c1 k1 : Int) (ρ' : Rho), Tbl r c e ∧ denSs Δ G B__law_any_table [.own true [.int c0, .int k0], .val (szD r c), .un, .un, .un, .un, .un, .un, .un] = .rt (tbD r c e) (.own true [.int c1, .int k1] :: .val (szD r c) :: ρ') := by
  obtain ⟨v1, c1, k1, h1, e1⟩ := roll_call Dc (ρ := [.own true [.int c0, .int k0], .val (szD r c), .un, .un, .un, .un, .un, .un, .un]) (j := 0) (fx := true) (m := 3) rfl (by decide) (by decide)
  obtain ⟨q, hq, hq1⟩ : ∃ q : Int, ixD (.list [.int 2, .int 5, .int 60]) (.int v1) = some (.int q) ∧ 1 ≤ q ∧ q ≤ 60 := by
    have : v1 = 0 ∨ v1 = 1 ∨ v1 = 2 := by omega
    rcases this with rfl | rfl | rfl
    · exact ⟨2, rfl, by decide⟩
    · exact ⟨5, rfl, by decide⟩
    · exact ⟨60, rfl, by decide⟩
  obtain ⟨v2, c2, k2, h2, e2⟩ := roll_call Dc (ρ := [.own true [.int c1, .int k1], .val (szD r c), .un, .un, .un, .un, .un, .un, .un]) (j := 0) (fx := true) (m := q) rfl (by omega) ((Nat.log2_lt (by omega)).mpr (Nat.lt_of_le_of_lt (show q.natAbs ≤ 60 by omega) (by decide)))
  simp only [List.set_cons_zero] at e1 e2
  show ∃ e c1 k1 ρ', Tbl r c e ∧ denSs Δ G (.cons (.par 2 3 (.val (.bin .add (.int 1) (.call 8 false (.slo 0 (.val (.ix (.lst (.cons (.int 2) (.cons (.int 5) (.cons (.int 60) .nil)))) (.call 8 false (.slo 0 (.val (.int 3) .nil)))) .nil)))) (.lst .nil))) (.cons (.for_ (.nm 4) (.rng1 (.ixv 1 (.int 0))) (.cons (.setL 5) (.cons (.for_ (.nm 6) (.rng1 (.ixv 1 (.int 1))) tIn) (.cons (.app 3 (.var 5)) .nil)))) (.cons (.ret (.blt .tuple (.cons (.comp (.nm 5) [("_law_entries", 5)] (.dat (.var 3)) .yes (.blt .tuple (.cons (.var 5) .nil))) .nil))) .nil))) _ = _
  rw [ss_nx (ρ1 := [.own true [.int c2, .int k2], .val (szD r c), .val (.int (1 + v2)), .own false [], .un, .un, .un, .un, .un]) ?hp]
  case hp => simp [denSs, denS, den, dens, denAnd, denOr, denO, denA, denI, denT, denF, setR, ifR, bin2, un1, notD, chain2, andB, orB, iteB, tupR, lstR, consR, consG, datR, sloR, argSl, bltR, isiR, rdv, ixvR, held, isUn, subS, lenvR, lenS, callR, SR.seq, Res.to, B2.den, add_i, sub_i, C2.den, icmp, negD, itR, itsD, putR, consF, valF, e1, hq, e2, putF, Fl.sl]
  rw [ss_cons, s_for1 (n := r) (ρ1 := [.own true [.int c2, .int k2], .val (szD r c), .val (.int (1 + v2)), .own false [], .un, .un, .un, .un, .un]) (by simp [denSs, denS, den, dens, denAnd, denOr, denO, denA, denI, denT, denF, setR, ifR, bin2, un1, notD, chain2, andB, orB, iteB, tupR, lstR, consR, consG, datR, sloR, argSl, bltR, isiR, rdv, ixvR, held, isUn, subS, lenvR, lenS, callR, SR.seq, Res.to, B2.den, add_i, sub_i, C2.den, icmp, negD, itR, itsD, sz_0]) (by omega)]
  obtain ⟨ρ', e3, hI⟩ := for_inv (p := .nm 4) (body := denSs Δ G (.cons (.setL 5) (.cons (.for_ (.nm 6) (.rng1 (.ixv 1 (.int 1))) tIn) (.cons (.app 3 (.var 5)) .nil)))) (fun i : Nat => PyData.int (i : Int))
    (fun n ρ => n ≤ r → ∃ (c1 k1 : Int) (a4 a5 a6 a7 a8 : Sl) (e : Nat → Nat → Int), ρ = [.own true [.int c1, .int k1], .val (szD r c), .val (.int (1 + v2)), .own false (rowsD n c e), a4, a5, a6, a7, a8] ∧ a5.isO = false ∧ Reg c n 0 e) (List.range r) [.own true [.int c2, .int k2], .val (szD r c), .val (.int (1 + v2)), .own false [], .un, .un, .un, .un, .un]
    (fun _ => ⟨c2, k2, _, _, _, _, _, fun _ _ => 0, rfl, rfl, fun i j h => by omega⟩) (fun n x ρ hx hI => by
      have hn : n < r := by
        have := (List.getElem?_eq_some_iff.mp hx).1
        simpa using this
      have hx : x = n := by
        rw [List.getElem?_range hn] at hx
        exact (Option.some.inj hx).symm
      subst hx
      obtain ⟨c3, k3, a4, a5, a6, a7, a8, e, rfl, h5, hR⟩ := hI (by omega)
      obtain ⟨c4, k4, a', b', d', e', ev, hR'⟩ := row_ok (G := G) Dc (c0 := c3) (k0 := k3) (st := 1 + v2) (r := r) (c := c) (n := x) (e := e) (a := a7) (b := a8) (d := a6) (by omega) (by omega) hc.1 hc.2 hR
      refine ⟨_, [.own true [.int c4, .int k4], .val (szD r c), .val (.int (1 + v2)), .own false (rowsD (x + 1) c e'), .val (.int x), .val (.list (entD x c e')), d', a', b'], rfl, ?_, fun _ => ⟨c4, k4, _, _, _, _, _, e', rfl, rfl, hR'⟩⟩
      rw [ss_nx (ρ1 := [.own true [.int c3, .int k3], .val (szD r c), .val (.int (1 + v2)), .own false (rowsD x c e), .val (.int x), .own false [], a6, a7, a8]) rfl]
      rw [ss_nx ev]
      have hl : (rowsD x c e').length < 1000000 := by
        have : (rowsD x c e').length = x := by simp [rowsD]
        omega
      have hx1 : rowsD (x + 1) c e' = rowsD x c e' ++ [.list (entD x c e')] := by
        unfold rowsD entD
        rw [List.range_succ, List.map_append]; rfl
      rw [hx1]
      simp [denSs, denS, den, dens, denAnd, denOr, denO, denA, denI, denT, denF, setR, ifR, bin2, un1, notD, chain2, andB, orB, iteB, tupR, lstR, consR, consG, datR, sloR, argSl, bltR, isiR, rdv, ixvR, held, isUn, subS, lenvR, lenS, callR, SR.seq, Res.to, B2.den, add_i, sub_i, C2.den, icmp, negD, itR, itsD, appR, isOwnS, hl])
  rw [List.length_range] at hI
  obtain ⟨c5, k5, a4, a5, a6, a7, a8, e, rfl, h5, hR⟩ := hI (Nat.le_refl _)
  rw [e3, SR.seq_nx]
  refine ⟨e, c5, k5, [.val (.int (1 + v2)), .val (.list (rowsD r c e)), a4, a5, a6, a7, a8], ⟨fun i j hi hj => (hR i j (.inl ⟨hi, hj⟩)).lo, fun i j hi hj => ?_, fun i j hi hj => (hR i (j + 1) (.inl ⟨hi, hj⟩)).left (by omega), fun i j hi hj => (hR (i + 1) j (.inl ⟨hi, hj⟩)).up (by omega)⟩, ss_rt (s_ret ?hc)⟩
  · have := (hR i j (.inl ⟨hi, hj⟩)).hi
    omega
  case hc =>
    show (consR _ _ _).bind _ = _
    unfold consR
    rw [show den Δ G (.comp (.nm 5) [("_law_entries", 5)] (.dat (.var 3)) .yes (.blt .tuple (.cons (.var 5) .nil))) [.own true [.int c5, .int k5], .val (szD r c), .val (.int (1 + v2)), .own false (rowsD r c e), a4, a5, a6, a7, a8] = .ok (.list ((List.range r).map fun i => rowD c (e i))) [.own true [.int c5, .int k5], .val (szD r c), .val (.int (1 + v2)), .val (.list (rowsD r c e)), a4, a5, a6, a7, a8] from ?hx]
    case hx =>
      refine compR_map (vs := [5]) (ρ1 := [.own true [.int c5, .int k5], .val (szD r c), .val (.int (1 + v2)), .val (.list (rowsD r c e)), a4, a5, a6, a7, a8]) (List.range r) (fun i => .list (entD i c e)) _ (fun i => [.own true [.int c5, .int k5], .val (szD r c), .val (.int (1 + v2)), .val (.list (rowsD r c e)), a4, .val (.list (entD i c e)), a6, a7, a8]) (fun i => [.own true [.int c5, .int k5], .val (szD r c), .val (.int (1 + v2)), .val (.list (rowsD r c e)), a4, .val (.list (entD i c e)), a6, a7, a8]) ?_ (by rw [List.length_range]; omega) ?_ rfl (fun i hi => ⟨rfl, ?_, rfl⟩)
      · rfl
      · simp [freeB, h5]
      · simp [denSs, denS, den, dens, denAnd, denOr, denO, denA, denI, denT, denF, setR, ifR, bin2, un1, notD, chain2, andB, orB, iteB, tupR, lstR, consR, consG, datR, sloR, argSl, bltR, isiR, rdv, ixvR, held, isUn, subS, lenvR, lenS, callR, SR.seq, Res.to, B2.den, add_i, sub_i, C2.den, icmp, negD, itR, itsD, Bt.den, rowD, entD]
    rw [Res.bind_ok]
    rfl
end
theorem run_rt {L : Nat} {m : Rho → SR} {ss us : List Sl} {d : D} {ρ' : Rho} (h : m (ss ++ List.replicate (L - ss.length) .un) = .rt d ρ') (ho : outsL ss ρ' = some us) : runF L m ss = .ok d us := by
  unfold runF
  rw [h]
  dsimp only
  rw [ho]
structure TabOk (Δ : Nat → Fn) : Prop where
  ar : (Δ i__law_any_table).ar = 2
  tab : ∀ (c k : Int) (r c' : Nat), (1 ≤ r ∧ r ≤ 4) → (1 ≤ c' ∧ c' ≤ 4) → ∃ e c1 k1, Tbl r c' e ∧ (Δ i__law_any_table).sem [.own true [.int c, .int k], .val (szD r c')] = .ok (tbD r c' e) [.own true [.int c1, .int k1], .un]
theorem tab_of {Δ Δ1 : Nat → Fn} {G1 : List (Str × D)} (h : Δ i__law_any_table = F__law_any_table.fn Δ1 G1) (Dc : DiceOk Δ1) : TabOk Δ :=
  ⟨by rw [h]; rfl, fun c0 k0 r c hr hc => by
    obtain ⟨e, c1, k1, ρ', ht, ev⟩ := tab_run (G := G1) Dc c0 k0 r c hr hc
    refine ⟨e, c1, k1, ht, ?_⟩
    rw [h]
    exact run_rt (L := 9) (ss := [.own true [.int c0, .int k0], .val (szD r c)]) ev rfl⟩
theorem tab_call {Δ : Nat → Fn} (T : TabOk Δ) {ρ : Rho} {j : Nat} {fx : Bool} {c k : Int} {r c' : Nat} (hj : ρ[j]? = some (.own fx [.int c, .int k])) (hr : 1 ≤ r ∧ r ≤ 4) (hc : 1 ≤ c' ∧ c' ≤ 4) :
    ∃ e c1 k1, Tbl r c' e ∧ callD (Δ i__law_any_table) false [.slo j, .dat (szD r c')] ρ = .ok (tbD r c' e) (ρ.set j (.own fx [.int c1, .int k1])) := by
  obtain ⟨e, c1, k1, ht, ev⟩ := T.tab c k r c' hr hc
  refine ⟨e, c1, k1, ht, callD_ok (ss := [.own true [.int c, .int k], .val (szD r c')]) ?_ rfl T.ar ev ?_⟩
  · simp [argSls, argSl, hj]
  · simp [wback, hj, reown]
end Dm
namespace Dm
open PySem PySem.Spec PyProof.Rows L2 LamX
@[simp] theorem bd_lenL (ds : List D) : Bt.len.den [.list ds] = some (.int ds.length) := rfl
@[simp] theorem bd_lenT (ds : List D) : Bt.len.den [.tuple ds] = some (.int ds.length) := rfl
@[simp] theorem bd_tupL (ds : List D) : Bt.tuple.den [.list ds] = some (.tuple ds) := rfl
@[simp] theorem bd_tupT (ds : List D) : Bt.tuple.den [.tuple ds] = some (.tuple ds) := rfl
@[simp] theorem bd_lstL (ds : List D) : Bt.list.den [.list ds] = some (.list ds) := rfl
@[simp] theorem bd_lstT (ds : List D) : Bt.list.den [.tuple ds] = some (.list ds) := rfl
@[simp] theorem bd_all (ds : List D) : Bt.all.den [.list ds] = (blsOf ds).map fun bs => .bool (bs.all id) := rfl
@[simp] theorem bd_any (ds : List D) : Bt.any.den [.list ds] = (blsOf ds).map fun bs => .bool (bs.any id) := rfl
@[simp] theorem bd_max2 (i j : Int) : Bt.max.den [.int i, .int j] = some (.int (max i j)) := rfl
@[simp] theorem bd_min2 (i j : Int) : Bt.min.den [.int i, .int j] = some (.int (min i j)) := rfl
@[simp] theorem bd_abs (i : Int) : Bt.abs.den [.int i] = some (.int (if i < 0 then -i else i)) := rfl
/-! ### is_table of a table as a function; the law's rising -/
theorem wh_intOf (c : Nat) (f : Nat → Int) : ((List.range c).map fun j => PyData.int (f j)).map intOf = (List.range c).map f := by
  rw [List.map_map]; rfl
theorem risB_iff (c : Nat) (f : Nat → Int) : risB ((List.range c).map f) = true ↔ ∀ j, j + 1 < c → f j < f (j + 1) := by
  unfold risB
  simp only [List.length_map, List.length_range, List.all_eq_true, List.mem_range, decide_eq_true_eq]
  constructor
  · intro h j hj
    have := h j (by omega)
    simpa [List.getD, List.getElem?_range (show j < c by omega), List.getElem?_range hj] using this
  · intro h j hj
    have := h j (by omega)
    simpa [List.getD, List.getElem?_range (show j < c by omega), List.getElem?_range (show j + 1 < c by omega)] using this
theorem ae_row (c : Nat) (f : Nat → Int) : aeB (rowD c f) c = true ↔ (∀ j, j < c → -999 ≤ f j ∧ f j ≤ 999) ∧ ∀ j, j + 1 < c → f j < f (j + 1) := by
  unfold aeB rowD
  simp only [List.length_map, List.length_range, decide_true, Bool.true_and, Bool.and_eq_true, wh_intOf, risB_iff, List.all_map, List.all_eq_true, List.mem_range, Function.comp, isWh, decide_eq_true_eq]
theorem rowAt (c : Nat) (f : Nat → Int) {j : Nat} (hj : j < c) : intAt (rowD c f) j = f j := by
  simp [intAt, rowD, intOf, List.getElem?_range hj]
structure Rising (r c : Nat) (e : Nat → Nat → Int) : Prop where
  row : ∀ i j, i < r → j + 1 < c → e i j < e i (j + 1)
  col : ∀ i j, i + 1 < r → j < c → e i j < e (i + 1) j
def Bounded (r c : Nat) (e : Nat → Nat → Int) : Prop := ∀ i j, i < r → j < c → -999 ≤ e i j ∧ e i j ≤ 999
theorem tb_0 {r c : Nat} {e : Nat → Nat → Int} (hr : 1 ≤ r) : ((List.range r).map fun i => rowD c (e i))[0]? = some (rowD c (e 0)) := by
  rw [List.getElem?_map, List.getElem?_range hr]; rfl
theorem isTab_iff {r c : Nat} {e : Nat → Nat → Int} (hr : 1 ≤ r ∧ r ≤ 4) (hc : 1 ≤ c ∧ c ≤ 4) : isTab (tbD r c e) = true ↔ Bounded r c e ∧ Rising r c e := by
  have h := isTab_eq (ds := (List.range r).map fun i => rowD c (e i)) (es := (List.range c).map fun j => .int (e 0 j)) (tb_0 hr.1) (by simp; omega) (by simp; omega) (by simp; omega) (by simp; omega)
  show isTab (.tuple _) = true ↔ _
  rw [h]
  simp only [List.length_map, List.length_range, Bool.and_eq_true, List.all_map, List.all_eq_true, List.mem_range, Function.comp]
  have e1 : ∀ j, j < c → ((List.range r).map fun i => rowD c (e i)).map (fun x => intAt x j) = (List.range r).map fun i => e i j := fun j hj => by
    rw [List.map_map]
    exact List.map_congr_left fun i _ => rowAt c (e i) hj
  constructor
  · rintro ⟨h1, h2⟩
    refine ⟨fun i j hi hj => ((ae_row c (e i)).mp (h1 i hi)).1 j hj, ⟨fun i j hi hj => ((ae_row c (e i)).mp (h1 i hi)).2 j hj, fun i j hi hj => ?_⟩⟩
    have := h2 j hj
    rw [e1 j hj, risB_iff] at this
    exact this i hi
  · rintro ⟨h1, h2⟩
    refine ⟨fun i hi => (ae_row c (e i)).mpr ⟨fun j hj => h1 i j hi hj, fun j hj => h2.row i j hi hj⟩, fun j hj => ?_⟩
    rw [e1 j hj, risB_iff]
    exact fun i hi => h2.col i j hi hj
theorem Tbl.tab {r c : Nat} {e : Nat → Nat → Int} (t : Tbl r c e) (hr : 1 ≤ r ∧ r ≤ 4) (hc : 1 ≤ c ∧ c ≤ 4) : isTab (tbD r c e) = true :=
  (isTab_iff hr hc).mpr ⟨fun i j hi hj => by have := t.lo i j hi hj; have := t.hi i j hi hj; omega, ⟨t.row, t.col⟩⟩
/-! ### the law's rising -/
def tbRows (r c : Nat) (e : Nat → Nat → Int) : List D := (List.range r).map fun i => rowD c (e i)
/-- a table, as a tuple or a list of rows -/
structure TbL (d : D) (r c : Nat) (e : Nat → Nat → Int) : Prop where
  or : d = .tuple (tbRows r c e) ∨ d = .list (tbRows r c e)
section
variable {d : D} {r c : Nat} {e : Nat → Nat → Int}
theorem TbL.len (h : TbL d r c e) : Bt.len.den [d] = some (.int r) := by
  rcases h.or with rfl | rfl <;> simp [Bt.den, tbRows]
theorem TbL.row (h : TbL d r c e) {i : Nat} (hi : i < r) : ixD d (.int (i : Int)) = some (rowD c (e i)) := by
  have : ixD (.tuple (tbRows r c e)) (.int (i : Int)) = some (rowD c (e i)) := tb_row hi
  rcases h.or with rfl | rfl <;> exact this
theorem TbL.its (h : TbL d r c e) : itsD d = some (tbRows r c e) := by
  rcases h.or with rfl | rfl <;> rfl
def badP (e : Nat → Nat → Int) (p : Pl) : Bool := (decide (0 < p.1) && decide (e p.1 p.2 ≤ e (p.1 - 1) p.2)) || (decide (0 < p.2) && decide (e p.1 p.2 ≤ e p.1 (p.2 - 1)))
def risF (r c : Nat) (e : Nat → Nat → Int) : Bool := !(allP r c).any (badP e)
theorem risF_iff : risF r c e = true ↔ Rising r c e := by
  unfold risF
  rw [Bool.not_eq_true', List.any_eq_false]
  simp only [badP, Bool.or_eq_true, Bool.and_eq_true, decide_eq_true_eq, not_or, not_and, mem_allP]
  constructor
  · intro h
    refine ⟨fun i j hi hj => ?_, fun i j hi hj => ?_⟩
    · have := (h (i, j + 1) ⟨hi, hj⟩).2 (by simp)
      simpa using this
    · have := (h (i + 1, j) ⟨hi, hj⟩).1 (by simp)
      simpa using this
  · rintro h ⟨i, j⟩ ⟨h1, h2⟩
    refine ⟨fun z => ?_, fun z => ?_⟩
    · have := h.col (i - 1) j (by dsimp at *; omega) h2
      dsimp at *
      rw [show i - 1 + 1 = i by omega] at this
      omega
    · have := h.row i (j - 1) h1 (by dsimp at *; omega)
      dsimp at *
      rw [show j - 1 + 1 = j by omega] at this
      omega
def bRis : ISs := .cons (.ifs (.and (.cons (.cmp .gt (.var 2) (.int 0)) (.cons (.cmp .ge (.ix (.ixv 0 (.bin .sub (.var 2) (.int 1))) (.var 3)) (.ix (.ixv 0 (.var 2)) (.var 3))) .nil))) (.cons (.ret (.bl false)) .nil) .nil) (.cons (.ifs (.and (.cons (.cmp .gt (.var 3) (.int 0)) (.cons (.cmp .ge (.ix (.ixv 0 (.var 2)) (.bin .sub (.var 3) (.int 1))) (.ix (.ixv 0 (.var 2)) (.var 3))) .nil))) (.cons (.ret (.bl false)) .nil) .nil) .nil)
theorem ris_in {Δ : Nat → Fn} {G : List (Str × D)} (h : TbL d r c e) {i j : Nat} (hi : i < r) (hj : j < c) (s1 : Sl) : denSs Δ G bRis [.val d, s1, .val (.int i), .val (.int j)] = if badP e (i, j) then .rt (.bool false) [.val d, s1, .val (.int i), .val (.int j)] else .nx [.val d, s1, .val (.int i), .val (.int j)] := by
  have e1 := h.row hi
  have e2 := row_at (f := e i) hj
  unfold bRis badP
  by_cases h1 : 0 < i
  · have h1' : (0 : Int) < i := by omega
    have e3 := h.row (show i - 1 < r by omega)
    have e4 := row_at (f := e (i - 1)) hj
    rw [show ((i - 1 : Nat) : Int) = (i : Int) - 1 by omega] at e3
    by_cases g1 : e i j ≤ e (i - 1) j
    · simp [denSs, denS, den, dens, denAnd, denOr, denO, denA, denI, denT, denF, setR, ifR, bin2, un1, notD, chain2, andB, orB, iteB, tupR, lstR, consR, consG, datR, sloR, argSl, bltR, isiR, rdv, ixvR, held, isUn, subS, lenvR, lenS, callR, SR.seq, Res.to, B2.den, add_i, sub_i, C2.den, icmp, negD, itR, itsD, h1, h1', e1, e2, e3, e4, g1]
    · by_cases h2 : 0 < j
      · have h2' : (0 : Int) < j := by omega
        have e5 := row_at (f := e i) (show j - 1 < c by omega)
        rw [show ((j - 1 : Nat) : Int) = (j : Int) - 1 by omega] at e5
        by_cases g2 : e i j ≤ e i (j - 1) <;> simp [denSs, denS, den, dens, denAnd, denOr, denO, denA, denI, denT, denF, setR, ifR, bin2, un1, notD, chain2, andB, orB, iteB, tupR, lstR, consR, consG, datR, sloR, argSl, bltR, isiR, rdv, ixvR, held, isUn, subS, lenvR, lenS, callR, SR.seq, Res.to, B2.den, add_i, sub_i, C2.den, icmp, negD, itR, itsD, h1, h1', e1, e2, e3, e4, g1, h2, h2', e5, g2]
      · have h2' : ¬ (0 : Int) < j := by omega
        simp [denSs, denS, den, dens, denAnd, denOr, denO, denA, denI, denT, denF, setR, ifR, bin2, un1, notD, chain2, andB, orB, iteB, tupR, lstR, consR, consG, datR, sloR, argSl, bltR, isiR, rdv, ixvR, held, isUn, subS, lenvR, lenS, callR, SR.seq, Res.to, B2.den, add_i, sub_i, C2.den, icmp, negD, itR, itsD, h1, h1', e1, e2, e3, e4, g1, h2, h2']
  · have h1' : ¬ (0 : Int) < i := by omega
    by_cases h2 : 0 < j
    · have h2' : (0 : Int) < j := by omega
      have e5 := row_at (f := e i) (show j - 1 < c by omega)
      rw [show ((j - 1 : Nat) : Int) = (j : Int) - 1 by omega] at e5
      by_cases g2 : e i j ≤ e i (j - 1) <;> simp [denSs, denS, den, dens, denAnd, denOr, denO, denA, denI, denT, denF, setR, ifR, bin2, un1, notD, chain2, andB, orB, iteB, tupR, lstR, consR, consG, datR, sloR, argSl, bltR, isiR, rdv, ixvR, held, isUn, subS, lenvR, lenS, callR, SR.seq, Res.to, B2.den, add_i, sub_i, C2.den, icmp, negD, itR, itsD, h1, h1', e1, e2, h2, h2', e5, g2]
    · have h2' : ¬ (0 : Int) < j := by omega
      simp [denSs, denS, den, dens, denAnd, denOr, denO, denA, denI, denT, denF, setR, ifR, bin2, un1, notD, chain2, andB, orB, iteB, tupR, lstR, consR, consG, datR, sloR, argSl, bltR, isiR, rdv, ixvR, held, isUn, subS, lenvR, lenS, callR, SR.seq, Res.to, B2.den, add_i, sub_i, C2.den, icmp, negD, itR, itsD, h1, h1', h2, h2']
end
def SpLRising (Δ : Nat → Fn) : Prop := ∀ d (r c : Nat) e ρ, TbL d r c e → r ≤ 4 → c ≤ 4 → callD (Δ i__law_is_rising) false [.dat d, .dat (szD r c)] ρ = .ok (.bool (risF r c e)) ρ
theorem sp_lrising {Δ Δ1 : Nat → Fn} {G : List (Str × D)} (h : Δ i__law_is_rising = F__law_is_rising.fn Δ1 G) (c1 : SpLPlaces Δ1) : SpLRising Δ := fun d r c e ρ ht hr hc => by
  refine call_rt (ds := [d, szD r c]) h rfl ?_ ρ
  show Rt 2 _ (denSs Δ1 G (.cons (.ifs (.or (.cons (.cmp .ne (.lenv 0) (.ixv 1 (.int 0))) (.cons (.not (.blt .all (.cons (.comp (.nm 2) [("_law_row", 2)] (.dat (.var 0)) .yes (.cmp .eq (.lenv 2) (.ixv 1 (.int 1)))) .nil))) .nil))) (.cons (.ret (.bl false)) .nil) .nil) (.cons (.for_ (.tp (.cons (.nm 2) (.cons (.nm 3) .nil))) (.dat (.call 13 false (.val (.var 1) .nil))) bRis) (.cons (.ret (.bl true)) .nil))) [.val d, .val (szD r c), .un, .un])
  have hcm : compR (.nm 2) [2] (itR (rdv 0)) none (bin2 eqD (lenvR 2) (ixvR 1 (fun ρ => .ok (.int 1) ρ))) [.val d, .val (szD r c), .un, .un] = .ok (.list ((List.range r).map fun i => .bool true)) [.val d, .val (szD r c), .un, .un] := by
    refine comp_nm (List.range r) (fun i => rowD c (e i)) _ rfl ?_ (by rw [List.length_range]; omega) (fun i hi => ?_)
    · show (itR (rdv 0)) _ = _
      unfold itR
      rw [show rdv 0 [.val d, .val (szD r c), .un, .un] = .ok d [.val d, .val (szD r c), .un, .un] from rfl, Res.bind_ok, ht.its]; rfl
    · simp [denSs, denS, den, dens, denAnd, denOr, denO, denA, denI, denT, denF, setR, ifR, bin2, un1, notD, chain2, andB, orB, iteB, tupR, lstR, consR, consG, datR, sloR, argSl, bltR, isiR, rdv, ixvR, held, isUn, subS, lenvR, lenS, callR, SR.seq, Res.to, B2.den, add_i, sub_i, C2.den, icmp, negD, itR, itsD, row_len, sz_1]
  rw [ss_nx (s_if_f (ρ1 := [.val d, .val (szD r c), .un, .un]) ?h1)]
  case h1 => simp [denSs, denS, den, dens, denAnd, denOr, denO, denA, denI, denT, denF, setR, ifR, bin2, un1, notD, chain2, andB, orB, iteB, tupR, lstR, consR, consG, datR, sloR, argSl, bltR, isiR, rdv, ixvR, held, isUn, subS, lenvR, lenS, callR, SR.seq, Res.to, B2.den, add_i, sub_i, C2.den, icmp, negD, itR, itsD, ht.len, sz_0, hcm, all_id_map]
  have e1 := c1 r c
  rw [ss_cons, s_forD (d := .list (plsD (allP r c))) (ds := plsD (allP r c)) (ρ1 := [.val d, .val (szD r c), .un, .un]) (by simp [denSs, denS, den, dens, denAnd, denOr, denO, denA, denI, denT, denF, setR, ifR, bin2, un1, notD, chain2, andB, orB, iteB, tupR, lstR, consR, consG, datR, sloR, argSl, bltR, isiR, rdv, ixvR, held, isUn, subS, lenvR, lenS, callR, SR.seq, Res.to, B2.den, add_i, sub_i, C2.den, icmp, negD, itR, itsD, e1 _ hr hc]) rfl]
  obtain ⟨ρ', ⟨a, b, rfl⟩, ev⟩ := for_find (p := .tp (.cons (.nm 2) (.cons (.nm 3) .nil))) (body := denSs Δ1 G bRis) plD (badP e) (fun _ => .bool false) (fun ρ => ∃ a b, ρ = [.val d, .val (szD r c), a, b]) (allP r c) [.val d, .val (szD r c), .un, .un] ⟨_, _, rfl⟩ (fun p hp ρ hρ => by
    obtain ⟨a, b, rfl⟩ := hρ
    obtain ⟨h1, h2⟩ := mem_allP.mp hp
    refine ⟨[.val d, .val (szD r c), .val (.int p.1), .val (.int p.2)], rfl, ?_⟩
    rw [ris_in ht h1 h2]
    show if badP e p = true then _ else _
    split
    · exact ⟨_, rfl, _, _, rfl⟩
    · exact ⟨_, rfl, _, _, rfl⟩)
  unfold plsD
  rw [ev]
  unfold risF
  cases hf : (allP r c).find? (badP e) with
  | none =>
    have : (allP r c).any (badP e) = false := by
      rw [List.any_eq_false]; exact fun x hx => List.find?_eq_none.mp hf x hx
    rw [this]
    exact Rt.of rfl (by simp)
  | some p =>
    have : (allP r c).any (badP e) = true := List.any_eq_true.mpr ⟨p, List.mem_of_find?_eq_some hf, List.find?_some hf⟩
    rw [this]
    exact Rt.of rfl (by simp)
structure SpNeedTable (Δ : Nat → Fn) : Prop where
  ok : ∀ d ρ, isTab d = true → callD (Δ i_need_table) false [.dat d] ρ = .ok .none ρ
  no : ∀ d ρ, isTab d = false → callD (Δ i_need_table) false [.dat d] ρ = .exc .table ρ
theorem sp_needtable {Δ Δ1 : Nat → Fn} {G : List (Str × D)} (h : Δ i_need_table = F_need_table.fn Δ1 G) (c1 : SpTable Δ1) : SpNeedTable Δ := by
  refine ⟨fun d ρ hd => call_nx (ds := [d]) h rfl ?_ ρ, fun d ρ hd => call_xc (ds := [d]) h rfl ?_ ρ⟩
  · have := c1 d
    show Nx 1 (denSs Δ1 G B_need_table [.val d])
    unfold B_need_table
    simp [denSs, denS, den, dens, denAnd, denOr, denO, denA, denI, denT, denF, setR, ifR, bin2, un1, notD, chain2, andB, orB, iteB, tupR, lstR, consR, consG, datR, sloR, argSl, bltR, isiR, rdv, ixvR, held, isUn, subS, lenvR, lenS, callR, SR.seq, Res.to, B2.den, add_i, sub_i, C2.den, icmp, negD, itR, itsD, this, hd]
  · have := c1 d
    show Xc 1 .table (denSs Δ1 G B_need_table [.val d])
    unfold B_need_table
    simp [denSs, denS, den, dens, denAnd, denOr, denO, denA, denI, denT, denF, setR, ifR, bin2, un1, notD, chain2, andB, orB, iteB, tupR, lstR, consR, consG, datR, sloR, argSl, bltR, isiR, rdv, ixvR, held, isUn, subS, lenvR, lenS, callR, SR.seq, Res.to, B2.den, add_i, sub_i, C2.den, icmp, negD, itR, itsD, this, hd]
structure SpTurnedNo (Δ : Nat → Fn) : Prop where
  no : ∀ d ρ, isTab d = false → callD (Δ i_turned) false [.dat d] ρ = .exc .table ρ
theorem sp_turnedno {Δ Δ1 : Nat → Fn} {G : List (Str × D)} (h : Δ i_turned = F_turned.fn Δ1 G) (c1 : SpNeedTable Δ1) : SpTurnedNo Δ := by
  refine ⟨fun d ρ hd => call_xc (ds := [d]) h rfl ?_ ρ⟩
  have := fun ρ => c1.no d ρ hd
  show Xc 1 .table (denSs Δ1 G B_turned [.val d, .un, .un])
  unfold B_turned
  simp [denSs, denS, den, dens, denAnd, denOr, denO, denA, denI, denT, denF, setR, ifR, bin2, un1, notD, chain2, andB, orB, iteB, tupR, lstR, consR, consG, datR, sloR, argSl, bltR, isiR, rdv, ixvR, held, isUn, subS, lenvR, lenS, callR, SR.seq, Res.to, B2.den, add_i, sub_i, C2.den, icmp, negD, itR, itsD, this]
structure SpNeedNumber (Δ : Nat → Fn) : Prop where
  ok : ∀ d ρ, isWh d (-999) 999 = true → callD (Δ i_need_number) false [.dat d] ρ = .ok .none ρ
  no : ∀ d ρ, isWh d (-999) 999 = false → callD (Δ i_need_number) false [.dat d] ρ = .exc .number ρ
theorem sp_neednumber {Δ Δ1 : Nat → Fn} {G : List (Str × D)} (h : Δ i_need_number = F_need_number.fn Δ1 G) (c1 : SpWhole Δ1) : SpNeedNumber Δ := by
  refine ⟨fun d ρ hd => call_nx (ds := [d]) h rfl ?_ ρ, fun d ρ hd => call_xc (ds := [d]) h rfl ?_ ρ⟩
  · have := c1 d (-999) 999
    show Nx 1 (denSs Δ1 G B_need_number [.val d])
    unfold B_need_number
    simp [denSs, denS, den, dens, denAnd, denOr, denO, denA, denI, denT, denF, setR, ifR, bin2, un1, notD, chain2, andB, orB, iteB, tupR, lstR, consR, consG, datR, sloR, argSl, bltR, isiR, rdv, ixvR, held, isUn, subS, lenvR, lenS, callR, SR.seq, Res.to, B2.den, add_i, sub_i, C2.den, icmp, negD, itR, itsD, this, hd]
  · have := c1 d (-999) 999
    show Xc 1 .number (denSs Δ1 G B_need_number [.val d])
    unfold B_need_number
    simp [denSs, denS, den, dens, denAnd, denOr, denO, denA, denI, denT, denF, setR, ifR, bin2, un1, notD, chain2, andB, orB, iteB, tupR, lstR, consR, consG, datR, sloR, argSl, bltR, isiR, rdv, ixvR, held, isUn, subS, lenvR, lenS, callR, SR.seq, Res.to, B2.den, add_i, sub_i, C2.den, icmp, negD, itR, itsD, this, hd]
end Dm
namespace Dm
open PySem PySem.Spec PyProof.Rows L2 LamX
/-! ### the law's clashes -/
def SpLUp (Δ : Nat → Fn) : Prop := ∀ (p q : Pl) ρ, callD (Δ i__law_up_to) false [.dat (plD p), .dat (plD q)] ρ = .ok (.bool (upTo p q)) ρ
theorem sp_lup {Δ Δ1 : Nat → Fn} {G : List (Str × D)} (h : Δ i__law_up_to = F__law_up_to.fn Δ1 G) : SpLUp Δ := fun p q ρ => by
  refine call_rt (ds := [plD p, plD q]) h rfl ?_ ρ
  show Rt 2 _ (denSs Δ1 G B__law_up_to [.val (plD p), .val (plD q)])
  unfold B__law_up_to plD upTo
  by_cases h1 : p.1 ≤ q.1
  · simp [denSs, denS, den, dens, denAnd, denOr, denO, denA, denI, denT, denF, setR, ifR, bin2, un1, notD, chain2, andB, orB, iteB, tupR, lstR, consR, consG, datR, sloR, argSl, bltR, isiR, rdv, ixvR, held, isUn, subS, lenvR, lenS, callR, SR.seq, Res.to, B2.den, add_i, sub_i, C2.den, icmp, negD, itR, itsD, ixD, atI_zero, atI_one, h1]
  · simp [denSs, denS, den, dens, denAnd, denOr, denO, denA, denI, denT, denF, setR, ifR, bin2, un1, notD, chain2, andB, orB, iteB, tupR, lstR, consR, consG, datR, sloR, argSl, bltR, isiR, rdv, ixvR, held, isUn, subS, lenvR, lenS, callR, SR.seq, Res.to, B2.den, add_i, sub_i, C2.den, icmp, negD, itR, itsD, ixD, atI_zero, atI_one, h1]
theorem eq_an (a b : An) : eqD (.str a.s) (.str b.s) = some (.bool (decide (a = b))) := by cases a <;> cases b <;> kernel_rfl
def bTurn : ISs := .cons (.ifs (.and (.cons (.cmp .eq (.var 3) (.str "less")) (.cons (.cmp .ne (.var 5) (.str "less")) (.cons (.call 42 false (.val (.var 4) (.val (.var 2) .nil))) .nil)))) (.cons (.ret (.bl true)) .nil) .nil) (.cons (.ifs (.and (.cons (.cmp .eq (.var 3) (.str "greater")) (.cons (.cmp .ne (.var 5) (.str "greater")) (.cons (.call 42 false (.val (.var 2) (.val (.var 4) .nil))) .nil)))) (.cons (.ret (.bl true)) .nil) .nil) (.cons (.ifs (.and (.cons (.cmp2 .eq .eq (.var 3) (.var 5) (.str "equal")) (.cons (.cmp .ne (.var 2) (.var 4)) (.cons (.call 42 false (.val (.var 2) (.val (.var 4) .nil))) .nil)))) (.cons (.ret (.bl true)) .nil) .nil) .nil))
section
variable {Δ1 : Nat → Fn} {G : List (Str × D)}
theorem turn_ok (c1 : SpLUp Δ1) (A B : Sl) (a b : Lk) : denSs Δ1 G bTurn [A, B, .val (plD a.1), .val (.str a.2.s), .val (plD b.1), .val (.str b.2.s)] = if clB a b then .rt (.bool true) [A, B, .val (plD a.1), .val (.str a.2.s), .val (plD b.1), .val (.str b.2.s)] else .nx [A, B, .val (plD a.1), .val (.str a.2.s), .val (plD b.1), .val (.str b.2.s)] := by
  obtain ⟨p, x⟩ := a
  obtain ⟨q, y⟩ := b
  have e1 := c1 p q
  have e2 := c1 q p
  unfold bTurn clB
  cases x with
  | le =>
    by_cases hy : y = .le
    · simp [denSs, denS, den, dens, denAnd, denOr, denO, denA, denI, denT, denF, setR, ifR, bin2, un1, notD, chain2, andB, orB, iteB, tupR, lstR, consR, consG, datR, sloR, argSl, bltR, isiR, rdv, ixvR, held, isUn, subS, lenvR, lenS, callR, SR.seq, Res.to, B2.den, add_i, sub_i, C2.den, icmp, negD, itR, itsD, eq_less, eq_gr, eq_eq, eq_an, ne_less, ne_gr, hy]
    · have hy' : ¬ An.le = y := fun z => hy z.symm
      by_cases hu : upTo q p <;> simp [denSs, denS, den, dens, denAnd, denOr, denO, denA, denI, denT, denF, setR, ifR, bin2, un1, notD, chain2, andB, orB, iteB, tupR, lstR, consR, consG, datR, sloR, argSl, bltR, isiR, rdv, ixvR, held, isUn, subS, lenvR, lenS, callR, SR.seq, Res.to, B2.den, add_i, sub_i, C2.den, icmp, negD, itR, itsD, eq_less, eq_gr, eq_eq, eq_an, ne_less, ne_gr, hy, hy', e2, hu]
  | gr =>
    by_cases hy : y = .gr
    · simp [denSs, denS, den, dens, denAnd, denOr, denO, denA, denI, denT, denF, setR, ifR, bin2, un1, notD, chain2, andB, orB, iteB, tupR, lstR, consR, consG, datR, sloR, argSl, bltR, isiR, rdv, ixvR, held, isUn, subS, lenvR, lenS, callR, SR.seq, Res.to, B2.den, add_i, sub_i, C2.den, icmp, negD, itR, itsD, eq_less, eq_gr, eq_eq, eq_an, ne_less, ne_gr, hy]
    · have hy' : ¬ An.gr = y := fun z => hy z.symm
      by_cases hu : upTo p q <;> simp [denSs, denS, den, dens, denAnd, denOr, denO, denA, denI, denT, denF, setR, ifR, bin2, un1, notD, chain2, andB, orB, iteB, tupR, lstR, consR, consG, datR, sloR, argSl, bltR, isiR, rdv, ixvR, held, isUn, subS, lenvR, lenS, callR, SR.seq, Res.to, B2.den, add_i, sub_i, C2.den, icmp, negD, itR, itsD, eq_less, eq_gr, eq_eq, eq_an, ne_less, ne_gr, hy, hy', e1, hu]
  | eq =>
    by_cases hy : y = .eq
    · by_cases hp : p = q
      · simp [denSs, denS, den, dens, denAnd, denOr, denO, denA, denI, denT, denF, setR, ifR, bin2, un1, notD, chain2, andB, orB, iteB, tupR, lstR, consR, consG, datR, sloR, argSl, bltR, isiR, rdv, ixvR, held, isUn, subS, lenvR, lenS, callR, SR.seq, Res.to, B2.den, add_i, sub_i, C2.den, icmp, negD, itR, itsD, eq_less, eq_gr, eq_eq, eq_an, ne_pl, hy, hp]
      · by_cases hu : upTo p q <;> simp [denSs, denS, den, dens, denAnd, denOr, denO, denA, denI, denT, denF, setR, ifR, bin2, un1, notD, chain2, andB, orB, iteB, tupR, lstR, consR, consG, datR, sloR, argSl, bltR, isiR, rdv, ixvR, held, isUn, subS, lenvR, lenS, callR, SR.seq, Res.to, B2.den, add_i, sub_i, C2.den, icmp, negD, itR, itsD, eq_less, eq_gr, eq_eq, eq_an, ne_pl, hy, hp, e1, hu]
    · have hy' : ¬ An.eq = y := fun z => hy z.symm
      simp [denSs, denS, den, dens, denAnd, denOr, denO, denA, denI, denT, denF, setR, ifR, bin2, un1, notD, chain2, andB, orB, iteB, tupR, lstR, consR, consG, datR, sloR, argSl, bltR, isiR, rdv, ixvR, held, isUn, subS, lenvR, lenS, callR, SR.seq, Res.to, B2.den, add_i, sub_i, C2.den, icmp, negD, itR, itsD, eq_less, eq_gr, eq_eq, eq_an, hy, hy']
end
def SpLClash (Δ : Nat → Fn) : Prop := ∀ (a b : Lk) ρ, callD (Δ i__law_clash) false [.dat (lkD a), .dat (lkD b)] ρ = .ok (.bool (cl2 a b)) ρ
theorem sp_lclash {Δ Δ1 : Nat → Fn} {G : List (Str × D)} (h : Δ i__law_clash = F__law_clash.fn Δ1 G) (c1 : SpLUp Δ1) : SpLClash Δ := fun a b ρ => by
  refine call_rt (ds := [lkD a, lkD b]) h rfl ?_ ρ
  show Rt 2 _ (denSs Δ1 G (.cons (.for_ (.tp (.cons (.tp (.cons (.nm 2) (.cons (.nm 3) .nil))) (.cons (.tp (.cons (.nm 4) (.cons (.nm 5) .nil))) .nil))) (.dat (.lst (.cons (.tup (.cons (.var 0) (.cons (.var 1) .nil))) (.cons (.tup (.cons (.var 1) (.cons (.var 0) .nil))) .nil)))) bTurn) (.cons (.ret (.bl false)) .nil)) [.val (lkD a), .val (lkD b), .un, .un, .un, .un])
  rw [ss_cons, s_forD (d := .list [.tuple [lkD a, lkD b], .tuple [lkD b, lkD a]]) (ds := [.tuple [lkD a, lkD b], .tuple [lkD b, lkD a]]) (ρ1 := [.val (lkD a), .val (lkD b), .un, .un, .un, .un]) (by simp [denSs, denS, den, dens, denAnd, denOr, denO, denA, denI, denT, denF, setR, ifR, bin2, un1, notD, chain2, andB, orB, iteB, tupR, lstR, consR, consG, datR, sloR, argSl, bltR, isiR, rdv, ixvR, held, isUn, subS, lenvR, lenS, callR, SR.seq, Res.to, B2.den, add_i, sub_i, C2.den, icmp, negD, itR, itsD]) rfl]
  have e1 := turn_ok (G := G) c1 (.val (lkD a)) (.val (lkD b)) a b
  have e2 := turn_ok (G := G) c1 (.val (lkD a)) (.val (lkD b)) b a
  have b1 : bindP (.tp (.cons (.tp (.cons (.nm 2) (.cons (.nm 3) .nil))) (.cons (.tp (.cons (.nm 4) (.cons (.nm 5) .nil))) .nil))) (.tuple [lkD a, lkD b]) [.val (lkD a), .val (lkD b), .un, .un, .un, .un] = some [.val (lkD a), .val (lkD b), .val (plD a.1), .val (.str a.2.s), .val (plD b.1), .val (.str b.2.s)] := rfl
  have b2 : bindP (.tp (.cons (.tp (.cons (.nm 2) (.cons (.nm 3) .nil))) (.cons (.tp (.cons (.nm 4) (.cons (.nm 5) .nil))) .nil))) (.tuple [lkD b, lkD a]) [.val (lkD a), .val (lkD b), .val (plD a.1), .val (.str a.2.s), .val (plD b.1), .val (.str b.2.s)] = some [.val (lkD a), .val (lkD b), .val (plD b.1), .val (.str b.2.s), .val (plD a.1), .val (.str a.2.s)] := rfl
  unfold cl2
  cases h1 : clB a b with
  | true =>
    rw [h1, if_pos rfl] at e1
    rw [forL, b1]
    simp only [e1]
    exact Rt.of rfl (by simp)
  | false =>
    rw [h1, if_neg (by simp)] at e1
    rw [forL, b1]
    simp only [e1]
    rw [forL, b2]
    cases h2 : clB b a with
    | true =>
      rw [h2, if_pos rfl] at e2
      simp only [e2]
      exact Rt.of rfl (by simp)
    | false =>
      rw [h2, if_neg (by simp)] at e2
      simp only [e2]
      exact Rt.of rfl (by simp)
section
variable {Δ1 : Nat → Fn} {G : List (Str × D)} {s : List Lk}
def bLIn : ISs := .cons (.ifs (.call 43 false (.val (.ixv 0 (.var 1)) (.val (.ixv 0 (.var 2)) .nil))) (.cons (.ret (.tup (.cons (.var 1) (.cons (.var 2) .nil)))) .nil) .nil) .nil
theorem lfc_in (c1 : SpLClash Δ1) {i j : Nat} (hi : i < s.length) (hj : j < s.length) : denSs Δ1 G bLIn [.val (stD s), .val (.int i), .val (.int (j : Int))] = if cl2 (lkAt s i) (lkAt s j) then .rt (plD (i, j)) [.val (stD s), .val (.int i), .val (.int (j : Int))] else .nx [.val (stD s), .val (.int i), .val (.int (j : Int))] := by
  have e1 := c1 (lkAt s i) (lkAt s j)
  have e3 := st_at hj
  have e4 := st_at hi
  unfold bLIn plD
  cases h1 : cl2 (lkAt s i) (lkAt s j) <;> simp [denSs, denS, den, dens, denAnd, denOr, denO, denA, denI, denT, denF, setR, ifR, bin2, un1, notD, chain2, andB, orB, iteB, tupR, lstR, consR, consG, datR, sloR, argSl, bltR, isiR, rdv, ixvR, held, isUn, subS, lenvR, lenS, callR, SR.seq, Res.to, B2.den, add_i, sub_i, C2.den, icmp, negD, itR, itsD, e3, e4, e1, h1]
theorem lfc_row (c1 : SpLClash Δ1) (hl : s.length ≤ 1000) {i : Nat} (hi : i < s.length) (c : Sl) : ∃ c', denS Δ1 G (.for_ (.nm 2) (.rng2 (.bin .add (.var 1) (.int 1)) (.lenv 0)) bLIn) [.val (stD s), .val (.int i), c] = match inn s i with
    | some k => .rt (plD (i, i + 1 + k)) [.val (stD s), .val (.int i), c']
    | none => .nx [.val (stD s), .val (.int i), c'] := by
  rw [s_for2 (a := i + 1) (b := s.length) (ρ1 := [.val (stD s), .val (.int i), c]) (ρ2 := [.val (stD s), .val (.int i), c]) ?h1 ?h2 (by omega) (by omega)]
  case h1 => simp [denSs, denS, den, dens, denAnd, denOr, denO, denA, denI, denT, denF, setR, ifR, bin2, un1, notD, chain2, andB, orB, iteB, tupR, lstR, consR, consG, datR, sloR, argSl, bltR, isiR, rdv, ixvR, held, isUn, subS, lenvR, lenS, callR, SR.seq, Res.to, B2.den, add_i, sub_i, C2.den, icmp, negD, itR, itsD]
  case h2 => simp [denSs, denS, den, dens, denAnd, denOr, denO, denA, denI, denT, denF, setR, ifR, bin2, un1, notD, chain2, andB, orB, iteB, tupR, lstR, consR, consG, datR, sloR, argSl, bltR, isiR, rdv, ixvR, held, isUn, subS, lenvR, lenS, callR, SR.seq, Res.to, B2.den, add_i, sub_i, C2.den, icmp, negD, itR, itsD, std_len]
  obtain ⟨ρ', ⟨c', rfl⟩, e⟩ := for_find (p := .nm 2) (body := denSs Δ1 G bLIn) (fun k : Nat => PyData.int ((i + 1 + k : Nat) : Int)) (fun k => cl2 (lkAt s i) (lkAt s (i + 1 + k))) (fun k => plD (i, i + 1 + k)) (fun ρ => ∃ c, ρ = [.val (stD s), .val (.int i), c]) (List.range (s.length - (i + 1))) [.val (stD s), .val (.int i), c] ⟨c, rfl⟩ (fun k hk ρ hρ => by
    obtain ⟨c, rfl⟩ := hρ
    have hk := List.mem_range.mp hk
    refine ⟨[.val (stD s), .val (.int i), .val (.int ((i + 1 + k : Nat) : Int))], rfl, ?_⟩
    rw [lfc_in c1 hi (show i + 1 + k < s.length by omega)]
    split <;> exact ⟨_, rfl, _, rfl⟩)
  refine ⟨c', e.trans ?_⟩
  unfold inn
  split <;> rename_i h <;> rw [h]
theorem lfc_all (c1 : SpLClash Δ1) (hl : s.length ≤ 1000) : Rt 1 (fcD (fcs s)) (denSs Δ1 G B__law_first_clash [.val (stD s), .un, .un]) := by
  show Rt 1 _ (denSs Δ1 G (.cons (.for_ (.nm 1) (.rng1 (.lenv 0)) (.cons (.for_ (.nm 2) (.rng2 (.bin .add (.var 1) (.int 1)) (.lenv 0)) bLIn) .nil)) (.cons (.ret .non) .nil)) [.val (stD s), .un, .un])
  rw [ss_cons, s_for1 (n := s.length) (ρ1 := [.val (stD s), .un, .un]) ?h1 (by omega)]
  case h1 => simp [denSs, denS, den, dens, denAnd, denOr, denO, denA, denI, denT, denF, setR, ifR, bin2, un1, notD, chain2, andB, orB, iteB, tupR, lstR, consR, consG, datR, sloR, argSl, bltR, isiR, rdv, ixvR, held, isUn, subS, lenvR, lenS, callR, SR.seq, Res.to, B2.den, add_i, sub_i, C2.den, icmp, negD, itR, itsD, std_len]
  obtain ⟨ρ', ⟨a, b, rfl⟩, e⟩ := for_find (p := .nm 1) (body := denSs Δ1 G (.cons (.for_ (.nm 2) (.rng2 (.bin .add (.var 1) (.int 1)) (.lenv 0)) bLIn) .nil)) (fun i : Nat => PyData.int (i : Int)) (fun i => (inn s i).isSome) (fun i => plD (i, i + 1 + (inn s i).getD 0)) (fun ρ => ∃ a b, ρ = [.val (stD s), a, b]) (List.range s.length) [.val (stD s), .un, .un] ⟨_, _, rfl⟩ (fun i hi ρ hρ => by
    obtain ⟨a, b, rfl⟩ := hρ
    have hi := List.mem_range.mp hi
    refine ⟨[.val (stD s), .val (.int i), b], rfl, ?_⟩
    obtain ⟨c', e⟩ := lfc_row (Δ1 := Δ1) (G := G) c1 hl hi b
    rw [ss_cons, e]
    cases h : inn s i with
    | none => exact ⟨_, rfl, _, _, rfl⟩
    | some k => exact ⟨_, rfl, _, _, rfl⟩)
  rw [e]
  unfold fcs
  cases h : (List.range s.length).find? fun i => (inn s i).isSome with
  | none => exact Rt.of rfl (by simp)
  | some i => exact Rt.of rfl (by simp)
end
def SpLFirst (Δ : Nat → Fn) : Prop := ∀ (s : List Lk) ρ, s.length ≤ 1000 → callD (Δ i__law_first_clash) false [.dat (stD s)] ρ = .ok (fcD (fcs s)) ρ
theorem sp_lfirst {Δ Δ1 : Nat → Fn} {G : List (Str × D)} (h : Δ i__law_first_clash = F__law_first_clash.fn Δ1 G) (c1 : SpLClash Δ1) : SpLFirst Δ := fun s ρ hl =>
  call_rt (ds := [stD s]) h rfl (lfc_all c1 hl) ρ
end Dm
namespace Dm
open PySem PySem.Spec PyProof.Rows L2 LamX
/-! ### laws: the pieces of their bodies -/
theorem for_all {p : Pt} {body : Rho → SR} (I : Rho → Prop) (ds : List D) (ρ : Rho) (h0 : I ρ) (hs : ∀ d ∈ ds, ∀ ρ, I ρ → ∃ ρ1 ρ2, bindP p d ρ = some ρ1 ∧ body ρ1 = .nx ρ2 ∧ I ρ2) : ∃ ρ', forL p body ds ρ = .nx ρ' ∧ I ρ' := by
  induction ds generalizing ρ with
  | nil => exact ⟨ρ, rfl, h0⟩
  | cons d ds ih =>
    obtain ⟨ρ1, ρ2, e1, e2, e3⟩ := hs d List.mem_cons_self ρ h0
    obtain ⟨ρ', e4, e5⟩ := ih ρ2 e3 fun x hx => hs x (List.mem_cons_of_mem _ hx)
    refine ⟨ρ', ?_, e5⟩
    rw [forL, e1]
    simp [e2, e4]
def errD (c : Exn) : D := .tuple [.str "error", .str c.cname]
theorem ne_err (c : Exn) : neD (errD c) (errD c) = some (.bool false) := by cases c <;> kernel_rfl
theorem told_xc {m : Rho → Res D} {ρ ρ' : Rho} {c : Exn} (h : m ρ = .exc c ρ') : toldR m ρ = .ok (errD c) ρ' := by
  unfold toldR; rw [h]; rfl
theorem cut_to (xs : List D) {j : Nat} : cutG xs none (some (j : Int)) = xs.take j := by
  unfold cutG
  rw [HT.sIx_none, HT.sIx_nat, List.drop_zero, Nat.sub_zero]
  by_cases h : j ≤ xs.length
  · rw [Nat.min_eq_left h]
  · rw [Nat.min_eq_right (by omega), List.take_of_length_le (Nat.le_refl _), List.take_of_length_le (by omega)]
theorem cut_from (xs : List D) {j : Nat} : cutG xs (some (j : Int)) none = xs.drop j := by
  unfold cutG
  rw [HT.sIx_none, HT.sIx_nat]
  by_cases h : j ≤ xs.length
  · rw [Nat.min_eq_left h, List.take_of_length_le (by simp)]
  · rw [Nat.min_eq_right (by omega), List.drop_of_length_le (Nat.le_refl _), List.drop_of_length_le (by omega)]
    simp
theorem bend {α : Type} (g : Nat → α) (n j : Nat) (y : α) (hj : j < n) : ((List.range n).map g).take j ++ [y] ++ ((List.range n).map g).drop (j + 1) = (List.range n).map fun i => if i = j then y else g i := by
  apply List.ext_getElem?
  intro i
  rw [List.append_assoc]
  by_cases h : i < j
  · rw [List.getElem?_append_left (by simp; omega), List.getElem?_take_of_lt h, List.getElem?_map, List.getElem?_map, List.getElem?_range (by omega)]
    simp [show ¬ i = j by omega]
  · rw [List.getElem?_append_right (by simp; omega)]
    have hl : (((List.range n).map g).take j).length = j := by simp; omega
    rw [hl]
    by_cases h2 : i = j
    · subst h2
      rw [Nat.sub_self, List.getElem?_map, List.getElem?_range hj]
      simp
    · obtain ⟨k, hk⟩ : ∃ k, i - j = k + 1 := ⟨i - j - 1, by omega⟩
      rw [hk, List.singleton_append, List.getElem?_cons_succ, List.getElem?_drop, show j + 1 + k = i by omega, List.getElem?_map, List.getElem?_map]
      by_cases h3 : i < n
      · rw [List.getElem?_range h3]; simp [h2]
      · rw [List.getElem?_eq_none (by simp; omega)]; rfl
theorem sl_to_t (xs : List D) (j : Nat) : slD none (some (j : Int)) (.tuple xs) = some (.tuple (xs.take j)) := by
  show some (PyData.tuple (cutG xs _ _)) = _
  rw [cut_to]
theorem sl_from_t (xs : List D) (j : Nat) : slD (some (j : Int)) none (.tuple xs) = some (.tuple (xs.drop j)) := by
  show some (PyData.tuple (cutG xs _ _)) = _
  rw [cut_from]
theorem roll_nat {Δ : Nat → Fn} (Dc : DiceOk Δ) {ρ : Rho} {j : Nat} {fx : Bool} {c k : Int} {m : Nat} (hj : ρ[j]? = some (.own fx [.int c, .int k])) (hm : 0 < m) (hl : m ≤ 1000000) :
    ∃ (v : Nat) (c' k' : Int), v < m ∧ callD (Δ i__law_roll) false [.slo j, .dat (.int m)] ρ = .ok (.int v) (ρ.set j (.own fx [.int c', .int k'])) := by
  obtain ⟨v, c', k', hv, e⟩ := roll_call Dc hj (show (0 : Int) < m by omega) ((Nat.log2_lt (by omega)).mpr (Nat.lt_of_le_of_lt (show (m : Int).natAbs ≤ 1000000 by omega) (Nat.lt_of_lt_of_le (by decide : 1000000 < 2 ^ 20) (Nat.pow_le_pow_right (by decide) (by decide)))))
  obtain ⟨n, rfl⟩ : ∃ n : Nat, v = n := ⟨v.toNat, by omega⟩
  exact ⟨n, c', k', by omega, e⟩
theorem size_nat {Δ : Nat → Fn} {G : List (Str × D)} (S : SizeOk Δ) (L : Nat) (hL : 3 ≤ L) (cl : Int) (m : Nat) (hm : 0 < m) (hm2 : m ≤ 4) : ∃ (r c : Nat) (c' k' : Int), (1 ≤ r ∧ r ≤ m) ∧ (1 ≤ c ∧ c ≤ m) ∧
    denS Δ G (.set 2 (.call i__law_any_size false (.slo 1 (.val (.int m) .nil)))) (lawRho L cl) = .nx ([.un, .own false [.int c', .int k'], .val (szD r c)] ++ List.replicate (L - 3) .un) := by
  obtain ⟨a, b, c', k', ha, hb, e⟩ := size_st (G := G) S L hL cl m (by omega) ((Nat.log2_lt (by omega)).mpr (Nat.lt_of_le_of_lt (show (m : Int).natAbs ≤ 4 by omega) (by decide)))
  obtain ⟨r, rfl⟩ : ∃ n : Nat, a = n := ⟨a.toNat, by omega⟩
  obtain ⟨c, rfl⟩ : ∃ n : Nat, b = n := ⟨b.toNat, by omega⟩
  exact ⟨r, c, c', k', by omega, by omega, e⟩
/-- a size, then a table of it -/
theorem size_tab {Δ : Nat → Fn} {G : List (Str × D)} (S : SizeOk Δ) (T : TabOk Δ) (L : Nat) (hL : 4 ≤ L) (cl : Int) (m : Nat) (hm : 0 < m) (hm2 : m ≤ 4) (rest : ISs) : ∃ (r c : Nat) (e : Nat → Nat → Int) (c' k' : Int), (1 ≤ r ∧ r ≤ m) ∧ (1 ≤ c ∧ c ≤ m) ∧ Tbl r c e ∧
    denSs Δ G (.cons (.set 2 (.call i__law_any_size false (.slo 1 (.val (.int m) .nil)))) (.cons (.set 3 (.call i__law_any_table false (.slo 1 (.val (.var 2) .nil)))) rest)) (lawRho L cl) = denSs Δ G rest ([.un, .own false [.int c', .int k'], .val (szD r c), .val (tbD r c e)] ++ List.replicate (L - 4) .un) := by
  obtain ⟨r, c, c1, k1, hr, hc, e1⟩ := size_nat (G := G) S L (by omega) cl m hm hm2
  obtain ⟨n, rfl⟩ : ∃ n, L = n + 4 := ⟨L - 4, by omega⟩
  obtain ⟨e, c2, k2, ht, e2⟩ := tab_call T (ρ := .un :: .own false [.int c1, .int k1] :: .val (szD r c) :: .un :: List.replicate n .un) (j := 1) (fx := false) (c := c1) (k := k1) rfl (r := r) (c' := c) (by omega) (by omega)
  refine ⟨r, c, e, c2, k2, hr, hc, ht, ?_⟩
  rw [ss_nx e1]
  have e0 : ([.un, .own false [.int c1, .int k1], .val (szD r c)] ++ List.replicate (n + 4 - 3) .un : Rho) = .un :: .own false [.int c1, .int k1] :: .val (szD r c) :: .un :: List.replicate n .un := by
    rw [show n + 4 - 3 = n + 1 by omega, List.replicate_succ]; rfl
  rw [e0, ss_nx (ρ1 := .un :: .own false [.int c2, .int k2] :: .val (szD r c) :: .val (tbD r c e) :: List.replicate n .un) ?h]
  · rw [show n + 4 - 4 = n by omega]; rfl
  case h =>
    simp only [List.set_cons_succ, List.set_cons_zero] at e2
    simp [denSs, denS, den, dens, denAnd, denOr, denO, denA, denI, denT, denF, setR, ifR, bin2, un1, notD, chain2, andB, orB, iteB, tupR, lstR, consR, consG, datR, sloR, argSl, bltR, isiR, rdv, ixvR, held, isUn, subS, lenvR, lenS, callR, SR.seq, Res.to, B2.den, add_i, sub_i, C2.den, icmp, negD, itR, itsD, e2]
/-- one entry changed -/
theorem bent_ok {r c i j : Nat} {e : Nat → Nat → Int} {v : Int} (hi : i < r) (hj : j < c) : PyData.tuple (((List.range r).map fun i => rowD c (e i)).take i ++ [.tuple (((List.range c).map fun j => PyData.int (e i j)).take j ++ [.int v] ++ ((List.range c).map fun j => PyData.int (e i j)).drop (j + 1))] ++ ((List.range r).map fun i => rowD c (e i)).drop (i + 1)) = tbD r c (updE e i j v) := by
  rw [bend _ _ _ _ hj, bend _ _ _ _ hi]
  unfold tbD
  congr 1
  refine List.map_congr_left fun a ha => ?_
  by_cases h : a = i
  · subst h
    rw [if_pos rfl]
    unfold rowD
    congr 1
    refine List.map_congr_left fun b hb => ?_
    unfold updE
    by_cases h2 : b = j <;> simp [h2]
  · rw [if_neg h]
    unfold rowD
    congr 1
    refine List.map_congr_left fun b hb => ?_
    rw [updE_ne (by omega)]
end Dm
namespace Dm
open PySem PySem.Spec PyProof.Rows L2 LamX
/-! ### the evaluator, rule by rule -/
section
variable {Δ : Nat → Fn} {G : List (Str × D)} {a b c : IE} {ρ ρ1 ρ2 ρ3 : Rho} {x y z d : D} {xs ys : List D}
theorem den_bin {o : B2} (h1 : den Δ G a ρ = .ok x ρ1) (h2 : den Δ G b ρ1 = .ok y ρ2) (h : o.den x y = some z) : den Δ G (.bin o a b) ρ = .ok z ρ2 := by
  show (den Δ G a ρ).bind _ = _
  rw [h1, Res.bind_ok, h2, Res.bind_ok, h]; rfl
theorem den_cmp {o : C2} (h1 : den Δ G a ρ = .ok x ρ1) (h2 : den Δ G b ρ1 = .ok y ρ2) (h : o.den x y = some z) : den Δ G (.cmp o a b) ρ = .ok z ρ2 := by
  show (den Δ G a ρ).bind _ = _
  rw [h1, Res.bind_ok, h2, Res.bind_ok, h]; rfl
theorem den_not {v : Bool} (h1 : den Δ G a ρ = .ok (.bool v) ρ1) : den Δ G (.not a) ρ = .ok (.bool (!v)) ρ1 := by
  show (den Δ G a ρ).bind _ = _
  rw [h1]; rfl
theorem den_ix (h1 : den Δ G a ρ = .ok x ρ1) (h2 : den Δ G b ρ1 = .ok y ρ2) (h : ixD x y = some z) : den Δ G (.ix a b) ρ = .ok z ρ2 := by
  show (den Δ G a ρ).bind _ = _
  rw [h1, Res.bind_ok, h2, Res.bind_ok, h]; rfl
theorem den_slto {j : Nat} (h1 : den Δ G a ρ = .ok (.tuple xs) ρ1) (h2 : den Δ G b ρ1 = .ok (.int j) ρ2) : den Δ G (.sl a .non (.som b)) ρ = .ok (.tuple (xs.take j)) ρ2 := by
  show (den Δ G a ρ).bind _ = _
  rw [h1, Res.bind_ok]
  show ((den Δ G b ρ1).bind _).bind _ = _
  rw [h2]
  show lift (slD none (some (j : Int)) (.tuple xs)) ρ2 = _
  rw [sl_to_t]; rfl
theorem den_slfrom {j : Nat} (h1 : den Δ G a ρ = .ok (.tuple xs) ρ1) (h2 : den Δ G b ρ1 = .ok (.int j) ρ2) : den Δ G (.sl a (.som b) .non) ρ = .ok (.tuple (xs.drop j)) ρ2 := by
  show (den Δ G a ρ).bind _ = _
  rw [h1, Res.bind_ok]
  show ((den Δ G b ρ1).bind _).bind _ = _
  rw [h2]
  show lift (slD (some (j : Int)) none (.tuple xs)) ρ2 = _
  rw [sl_from_t]; rfl
theorem den_var {i : Nat} (h : ρ[i]? = some (.val d)) : den Δ G (.var i) ρ = .ok d ρ := by
  show rdv i ρ = _
  unfold rdv
  rw [h]
theorem den_ixv {i : Nat} {d0 : D} (h1 : den Δ G b ρ = .ok y ρ1) (h0 : held i ρ = true) (h : ρ1[i]? = some (.val d0)) (h2 : ixD d0 y = some d) : den Δ G (.ixv i b) ρ = .ok d ρ1 := by
  show ixvR i (den Δ G b) ρ = _
  unfold ixvR
  rw [if_pos h0, h1, Res.bind_ok, h]
  show lift (ixD d0 y) ρ1 = _
  rw [h2]; rfl
theorem den_addt (h1 : den Δ G a ρ = .ok (.tuple xs) ρ1) (h2 : den Δ G b ρ1 = .ok (.tuple ys) ρ2) (h : xs.length + ys.length ≤ 2000000) : den Δ G (.bin .add a b) ρ = .ok (.tuple (xs ++ ys)) ρ2 :=
  den_bin h1 h2 (add_tup xs ys h)
theorem den_addl (h1 : den Δ G a ρ = .ok (.list xs) ρ1) (h2 : den Δ G b ρ1 = .ok (.list ys) ρ2) (h : xs.length + ys.length ≤ 2000000) : den Δ G (.bin .add a b) ρ = .ok (.list (xs ++ ys)) ρ2 :=
  den_bin h1 h2 (add_list xs ys h)
theorem dens_cons {as : IEs} (h : den Δ G a ρ = .ok x ρ1) (h2 : dens Δ G as ρ1 = .ok xs ρ2) : dens Δ G (.cons a as) ρ = .ok (x :: xs) ρ2 := by
  show (den Δ G a ρ).bind _ = _
  rw [h, Res.bind_ok, h2]; rfl
theorem dens_nil : dens Δ G .nil ρ = .ok [] ρ := rfl
theorem den_lst {as : IEs} (h : dens Δ G as ρ = .ok xs ρ1) : den Δ G (.lst as) ρ = .ok (.list xs) ρ1 := by
  show (dens Δ G as ρ).bind _ = _
  rw [h]; rfl
theorem den_tup {as : IEs} (h : dens Δ G as ρ = .ok xs ρ1) : den Δ G (.tup as) ρ = .ok (.tuple xs) ρ1 := by
  show (dens Δ G as ρ).bind _ = _
  rw [h]; rfl
theorem den_blt {t : Bt} {as : IEs} (h : dens Δ G as ρ = .ok xs ρ1) (h2 : t.den xs = some d) : den Δ G (.blt t as) ρ = .ok d ρ1 := by
  show (dens Δ G as ρ).bind _ = _
  rw [h, Res.bind_ok, h2]; rfl
theorem den_told {cx : Exn} (h : den Δ G a ρ = .exc cx ρ1) : den Δ G (.told a) ρ = .ok (errD cx) ρ1 := told_xc h
theorem den_told_ok (h : den Δ G a ρ = .ok d ρ1) : den Δ G (.told a) ρ = .ok d ρ1 := by
  show toldR (den Δ G a) ρ = _
  unfold toldR
  rw [h]
theorem s_if_t {x y : ISs} {b : IE} (h : den Δ G b ρ = .ok (.bool true) ρ1) : denS Δ G (.ifs b x y) ρ = denSs Δ G x ρ1 := by
  rw [s_if h]; rfl
theorem den_call {f : Nat} {as : IAs} {ars : List Ar} (h1 : denA Δ G as ρ = .ok ars ρ1) (h : callD (Δ f) false ars ρ1 = .ok d ρ2) : den Δ G (.call f false as) ρ = .ok d ρ2 := by
  show (denA Δ G as ρ).bind _ = _
  rw [h1]
  exact h
theorem den_call_xc {f : Nat} {as : IAs} {ars : List Ar} {cx : Exn} (h1 : denA Δ G as ρ = .ok ars ρ1) (h : callD (Δ f) false ars ρ1 = .exc cx ρ2) : den Δ G (.call f false as) ρ = .exc cx ρ2 := by
  show (denA Δ G as ρ).bind _ = _
  rw [h1]
  exact h
theorem den_or2 {v w : Bool} (h1 : den Δ G a ρ = .ok (.bool v) ρ1) (h2 : v = false → den Δ G b ρ1 = .ok (.bool w) ρ1) : den Δ G (.or (.cons a (.cons b .nil))) ρ = .ok (.bool (v || w)) ρ1 := by
  show (den Δ G a ρ).bind _ = _
  rw [h1]
  cases v with
  | true => rfl
  | false => exact h2 rfl
end
@[simp] theorem neD_bool (a b : Bool) : neD (.bool a) (.bool b) = some (.bool (a != b)) := by cases a <;> cases b <;> kernel_rfl
@[simp] theorem eqD_bool (a b : Bool) : eqD (.bool a) (.bool b) = some (.bool (a == b)) := by cases a <;> cases b <;> kernel_rfl
end Dm
namespace Dm
open PySem PySem.Spec PyProof.Rows L2 LamX
/-! ### any number, any story -/
section
variable {Δ : Nat → Fn} {G : List (Str × D)}
theorem number_run (Dc : DiceOk Δ) (c0 k0 : Int) {r n : Nat} {e : Nat → Nat → Int} (hr : 1 ≤ r ∧ r ≤ 4) (hn : 1 ≤ n ∧ n ≤ 4) (ht : Tbl r n e) : ∃ (x c1 k1 : Int) (ρ' : Rho), (-20 ≤ x ∧ x ≤ 401) ∧ denSs Δ G B__law_any_number [.own true [.int c0, .int k0], .val (tbD r n e), .un] = .rt (.int x) (.own true [.int c1, .int k1] :: .val (tbD r n e) :: ρ') := by
  obtain ⟨i, c1, k1, hi, e1⟩ := roll_nat Dc (ρ := [.own true [.int c0, .int k0], .val (tbD r n e), .un]) (j := 0) (fx := true) (m := r) rfl (by omega) (by omega)
  obtain ⟨j, c2, k2, hj, e2⟩ := roll_nat Dc (ρ := [.own true [.int c1, .int k1], .val (tbD r n e), .val (rowD n (e i))]) (j := 0) (fx := true) (m := n) rfl (by omega) (by omega)
  obtain ⟨w, c3, k3, hw, e3⟩ := roll_nat Dc (ρ := [.own true [.int c2, .int k2], .val (tbD r n e), .val (rowD n (e i))]) (j := 0) (fx := true) (m := 4) rfl (by omega) (by omega)
  simp only [List.set_cons_zero] at e1 e2 e3
  obtain ⟨q, hq, hq1⟩ : ∃ q : Int, ixD (.list [.int 0, .int 0, .int 1, .int (-1)]) (.int w) = some (.int q) ∧ -1 ≤ q ∧ q ≤ 1 := by
    have : w = 0 ∨ w = 1 ∨ w = 2 ∨ w = 3 := by omega
    rcases this with rfl | rfl | rfl | rfl
    · exact ⟨0, rfl, by decide⟩
    · exact ⟨0, rfl, by decide⟩
    · exact ⟨1, rfl, by decide⟩
    · exact ⟨-1, rfl, by decide⟩
  have i1 := tb_row (c := n) (e := e) hi
  have i2 := row_at (f := e i) hj
  have l1 := ht.lo i j hi hj
  have l2 := ht.hi i j hi hj
  refine ⟨e i j + q, c3, k3, [.val (rowD n (e i))], ⟨by omega, by omega⟩, ?_⟩
  unfold B__law_any_number
  rw [ss_nx (s_set (d := rowD n (e i)) (ρ1 := [.own true [.int c1, .int k1], .val (tbD r n e), .un]) ?h1)]
  · refine ss_rt (s_ret (den_bin (x := .int (e i j)) (y := .int q) (ρ1 := [.own true [.int c2, .int k2], .val (tbD r n e), .val (rowD n (e i))]) ?h2 ?h3 rfl))
    case h2 =>
      refine den_ixv (d0 := rowD n (e i)) (den_call (ars := [.slo 0, .dat (.int n)]) (ρ1 := [.own true [.int c1, .int k1], .val (tbD r n e), .val (rowD n (e i))]) ?_ e2) rfl rfl i2
      simp [denSs, denS, den, dens, denAnd, denOr, denO, denA, denI, denT, denF, setR, ifR, bin2, un1, notD, chain2, andB, orB, iteB, tupR, lstR, consR, consG, datR, sloR, argSl, bltR, isiR, rdv, ixvR, held, isUn, subS, lenvR, lenS, callR, SR.seq, Res.to, B2.den, add_i, sub_i, C2.den, icmp, negD, itR, itsD, row_len]
    case h3 =>
      exact den_ix (x := .list [.int 0, .int 0, .int 1, .int (-1)]) rfl (den_call (ars := [.slo 0, .dat (.int 4)]) rfl e3) hq
  case h1 =>
    refine den_ixv (d0 := tbD r n e) (den_call (ars := [.slo 0, .dat (.int r)]) (ρ1 := [.own true [.int c0, .int k0], .val (tbD r n e), .un]) ?_ e1) rfl rfl i1
    simp [denSs, denS, den, dens, denAnd, denOr, denO, denA, denI, denT, denF, setR, ifR, bin2, un1, notD, chain2, andB, orB, iteB, tupR, lstR, consR, consG, datR, sloR, argSl, bltR, isiR, rdv, ixvR, held, isUn, subS, lenvR, lenS, callR, SR.seq, Res.to, B2.den, add_i, sub_i, C2.den, icmp, negD, itR, itsD, tb_len]
end
structure NumOk (Δ : Nat → Fn) : Prop where
  ar : (Δ i__law_any_number).ar = 2
  num : ∀ (c k : Int) (r n : Nat) e, (1 ≤ r ∧ r ≤ 4) → (1 ≤ n ∧ n ≤ 4) → Tbl r n e → ∃ x c1 k1 : Int, (-20 ≤ x ∧ x ≤ 401) ∧ (Δ i__law_any_number).sem [.own true [.int c, .int k], .val (tbD r n e)] = .ok (.int x) [.own true [.int c1, .int k1], .un]
theorem num_of {Δ Δ1 : Nat → Fn} {G1 : List (Str × D)} (h : Δ i__law_any_number = F__law_any_number.fn Δ1 G1) (Dc : DiceOk Δ1) : NumOk Δ :=
  ⟨by rw [h]; rfl, fun c0 k0 r n e hr hn ht => by
    obtain ⟨x, c1, k1, ρ', hx, ev⟩ := number_run (G := G1) Dc c0 k0 hr hn ht
    refine ⟨x, c1, k1, hx, ?_⟩
    rw [h]
    exact run_rt (L := 3) (ss := [.own true [.int c0, .int k0], .val (tbD r n e)]) ev rfl⟩
theorem num_call {Δ : Nat → Fn} (N : NumOk Δ) {ρ : Rho} {j : Nat} {fx : Bool} {c k : Int} {r n : Nat} {e : Nat → Nat → Int} (hj : ρ[j]? = some (.own fx [.int c, .int k])) (hr : 1 ≤ r ∧ r ≤ 4) (hn : 1 ≤ n ∧ n ≤ 4) (ht : Tbl r n e) :
    ∃ x c1 k1 : Int, (-20 ≤ x ∧ x ≤ 401) ∧ callD (Δ i__law_any_number) false [.slo j, .dat (tbD r n e)] ρ = .ok (.int x) (ρ.set j (.own fx [.int c1, .int k1])) := by
  obtain ⟨x, c1, k1, hx, ev⟩ := N.num c k r n e hr hn ht
  refine ⟨x, c1, k1, hx, callD_ok (ss := [.own true [.int c, .int k], .val (tbD r n e)]) ?_ rfl N.ar ev ?_⟩
  · simp [argSls, argSl, hj]
  · simp [wback, hj, reown]
def bStory : ISs := .cons (.set 8 (.tup (.cons (.call 8 false (.slo 0 (.val (.lenv 1) .nil))) (.cons (.call 8 false (.slo 0 (.val (.blt .len (.cons (.ixv 1 (.int 0)) .nil)) .nil))) .nil)))) (.cons (.set 9 (.call 40 false (.val (.var 1) (.val (.var 8) (.val (.var 2) .nil))))) (.cons (.ifs (.and (.cons (.var 6) (.cons (.cmp .eq (.call 8 false (.slo 0 (.val (.int 3) .nil))) (.int 0)) .nil))) (.cons (.set 9 (.ix (.lst (.cons (.str "less") (.cons (.str "greater") (.cons (.str "equal") .nil)))) (.call 8 false (.slo 0 (.val (.int 3) .nil))))) .nil) .nil) (.cons (.app 5 (.tup (.cons (.var 8) (.cons (.var 9) .nil)))) .nil)))
section
variable {Δ : Nat → Fn} {G : List (Str × D)}
theorem look_turn (Dc : DiceOk Δ) (La : SpLAnswer Δ) (c0 k0 x : Int) {r n : Nat} {e : Nat → Nat → Int} (hr : 1 ≤ r ∧ r ≤ 4) (hn : 1 ≤ n ∧ n ≤ 4) (m b : D) (w : Bool) (ls : List Lk) (hls : ls.length < 1000000) (a7 a8 a9 : Sl) : ∃ (c1 k1 : Int) (l : Lk) (b8 b9 : Sl), inSz r n l.1 ∧ (w = false → l.2 = ansOf e x l.1) ∧
    denSs Δ G bStory [.own true [.int c0, .int k0], .val (tbD r n e), .val (.int x), .val m, .val b, .own false (ls.map lkD), .val (.bool w), a7, a8, a9] = .nx [.own true [.int c1, .int k1], .val (tbD r n e), .val (.int x), .val m, .val b, .own false ((ls ++ [l]).map lkD), .val (.bool w), a7, b8, b9] := by
  obtain ⟨i, c1, k1, hi, e1⟩ := roll_nat Dc (ρ := [.own true [.int c0, .int k0], .val (tbD r n e), .val (.int x), .val m, .val b, .own false (ls.map lkD), .val (.bool w), a7, a8, a9]) (j := 0) (fx := true) (m := r) rfl (by omega) (by omega)
  obtain ⟨j, c2, k2, hj, e2⟩ := roll_nat Dc (ρ := [.own true [.int c1, .int k1], .val (tbD r n e), .val (.int x), .val m, .val b, .own false (ls.map lkD), .val (.bool w), a7, a8, a9]) (j := 0) (fx := true) (m := n) rfl (by omega) (by omega)
  obtain ⟨u, c3, k3, hu, e3⟩ := roll_nat Dc (ρ := [.own true [.int c2, .int k2], .val (tbD r n e), .val (.int x), .val m, .val b, .own false (ls.map lkD), .val (.bool w), a7, .val (plD (i, j)), .val (.str (ansOf e x (i, j)).s)]) (j := 0) (fx := true) (m := 3) rfl (by omega) (by omega)
  obtain ⟨v, c4, k4, hv, e4⟩ := roll_nat Dc (ρ := [.own true [.int c3, .int k3], .val (tbD r n e), .val (.int x), .val m, .val b, .own false (ls.map lkD), .val (.bool w), a7, .val (plD (i, j)), .val (.str (ansOf e x (i, j)).s)]) (j := 0) (fx := true) (m := 3) rfl (by omega) (by omega)
  simp only [List.set_cons_zero] at e1 e2 e3 e4
  have i0 := tb_row0 (c := n) (e := e) hr.1
  obtain ⟨q, hq⟩ : ∃ q : An, ixD (.list [.str "less", .str "greater", .str "equal"]) (.int v) = some (.str q.s) := by
    have : v = 0 ∨ v = 1 ∨ v = 2 := by omega
    rcases this with rfl | rfl | rfl
    · exact ⟨.le, rfl⟩
    · exact ⟨.gr, rfl⟩
    · exact ⟨.eq, rfl⟩
  have hp : inSz r n (i, j) := ⟨hi, hj⟩
  have f1 : denS Δ G (.set 8 (.tup (.cons (.call 8 false (.slo 0 (.val (.lenv 1) .nil))) (.cons (.call 8 false (.slo 0 (.val (.blt .len (.cons (.ixv 1 (.int 0)) .nil)) .nil))) .nil)))) [.own true [.int c0, .int k0], .val (tbD r n e), .val (.int x), .val m, .val b, .own false (ls.map lkD), .val (.bool w), a7, a8, a9] = .nx [.own true [.int c2, .int k2], .val (tbD r n e), .val (.int x), .val m, .val b, .own false (ls.map lkD), .val (.bool w), a7, .val (plD (i, j)), a9] := by
    refine s_set (d := plD (i, j)) (den_tup (dens_cons (den_call (ars := [.slo 0, .dat (.int r)]) (ρ1 := [.own true [.int c0, .int k0], .val (tbD r n e), .val (.int x), .val m, .val b, .own false (ls.map lkD), .val (.bool w), a7, a8, a9]) ?_ e1) (dens_cons (den_call (ars := [.slo 0, .dat (.int n)]) (ρ1 := [.own true [.int c1, .int k1], .val (tbD r n e), .val (.int x), .val m, .val b, .own false (ls.map lkD), .val (.bool w), a7, a8, a9]) ?_ e2) dens_nil)))
    · simp [denSs, denS, den, dens, denAnd, denOr, denO, denA, denI, denT, denF, setR, ifR, bin2, un1, notD, chain2, andB, orB, iteB, tupR, lstR, consR, consG, datR, sloR, argSl, bltR, isiR, rdv, ixvR, held, isUn, subS, lenvR, lenS, callR, SR.seq, Res.to, B2.den, add_i, sub_i, C2.den, icmp, negD, itR, itsD, tb_len]
    · simp [denSs, denS, den, dens, denAnd, denOr, denO, denA, denI, denT, denF, setR, ifR, bin2, un1, notD, chain2, andB, orB, iteB, tupR, lstR, consR, consG, datR, sloR, argSl, bltR, isiR, rdv, ixvR, held, isUn, subS, lenvR, lenS, callR, SR.seq, Res.to, B2.den, add_i, sub_i, C2.den, icmp, negD, itR, itsD, i0, row_len]
  have f2 : denS Δ G (.set 9 (.call 40 false (.val (.var 1) (.val (.var 8) (.val (.var 2) .nil))))) [.own true [.int c2, .int k2], .val (tbD r n e), .val (.int x), .val m, .val b, .own false (ls.map lkD), .val (.bool w), a7, .val (plD (i, j)), a9] = .nx [.own true [.int c2, .int k2], .val (tbD r n e), .val (.int x), .val m, .val b, .own false (ls.map lkD), .val (.bool w), a7, .val (plD (i, j)), .val (.str (ansOf e x (i, j)).s)] :=
    s_set (den_call (ars := [.dat (tbD r n e), .dat (plD (i, j)), .dat (.int x)]) rfl (La r n e (i, j) x [.own true [.int c2, .int k2], .val (tbD r n e), .val (.int x), .val m, .val b, .own false (ls.map lkD), .val (.bool w), a7, .val (plD (i, j)), a9] hp))
  have app : ∀ (c k : Int) (q : An), denS Δ G (.app 5 (.tup (.cons (.var 8) (.cons (.var 9) .nil)))) [.own true [.int c, .int k], .val (tbD r n e), .val (.int x), .val m, .val b, .own false (ls.map lkD), .val (.bool w), a7, .val (plD (i, j)), .val (.str q.s)] = .nx [.own true [.int c, .int k], .val (tbD r n e), .val (.int x), .val m, .val b, .own false ((ls ++ [((i, j), q)]).map lkD), .val (.bool w), a7, .val (plD (i, j)), .val (.str q.s)] := fun c k q => by
    simp [denSs, denS, den, dens, denAnd, denOr, denO, denA, denI, denT, denF, setR, ifR, bin2, un1, notD, chain2, andB, orB, iteB, tupR, lstR, consR, consG, datR, sloR, argSl, bltR, isiR, rdv, ixvR, held, isUn, subS, lenvR, lenS, callR, SR.seq, Res.to, B2.den, add_i, sub_i, C2.den, icmp, negD, itR, itsD, appR, isOwnS, hls, lkD]
  unfold bStory
  rw [ss_nx f1, ss_nx f2]
  cases w with
  | false =>
    refine ⟨c2, k2, ((i, j), ansOf e x (i, j)), .val (plD (i, j)), .val (.str (ansOf e x (i, j)).s), hp, fun _ => rfl, ?_⟩
    rw [ss_nx (s_if_f rfl), ss_nx (app _ _ _)]
    rfl
  | true =>
    have hc : den Δ G (.and (.cons (.var 6) (.cons (.cmp .eq (.call 8 false (.slo 0 (.val (.int 3) .nil))) (.int 0)) .nil))) [.own true [.int c2, .int k2], .val (tbD r n e), .val (.int x), .val m, .val b, .own false (ls.map lkD), .val (.bool true), a7, .val (plD (i, j)), .val (.str (ansOf e x (i, j)).s)] = .ok (.bool (decide ((u : Int) = 0))) [.own true [.int c3, .int k3], .val (tbD r n e), .val (.int x), .val m, .val b, .own false (ls.map lkD), .val (.bool true), a7, .val (plD (i, j)), .val (.str (ansOf e x (i, j)).s)] := by
      have e3' : callD (Δ 8) false [.slo 0, .dat (.int 3)] [.own true [.int c2, .int k2], .val (tbD r n e), .val (.int x), .val m, .val b, .own false (ls.map lkD), .val (.bool true), a7, .val (plD (i, j)), .val (.str (ansOf e x (i, j)).s)] = .ok (.int u) [.own true [.int c3, .int k3], .val (tbD r n e), .val (.int x), .val m, .val b, .own false (ls.map lkD), .val (.bool true), a7, .val (plD (i, j)), .val (.str (ansOf e x (i, j)).s)] := e3
      simp [denSs, denS, den, dens, denAnd, denOr, denO, denA, denI, denT, denF, setR, ifR, bin2, un1, notD, chain2, andB, orB, iteB, tupR, lstR, consR, consG, datR, sloR, argSl, bltR, isiR, rdv, ixvR, held, isUn, subS, lenvR, lenS, callR, SR.seq, Res.to, B2.den, add_i, sub_i, C2.den, icmp, negD, itR, itsD, e3']
    by_cases hu0 : (u : Int) = 0
    · refine ⟨c4, k4, ((i, j), q), .val (plD (i, j)), .val (.str q.s), hp, fun z => (by cases z), ?_⟩
      rw [decide_eq_true hu0] at hc
      rw [ss_nx (ρ1 := [.own true [.int c4, .int k4], .val (tbD r n e), .val (.int x), .val m, .val b, .own false (ls.map lkD), .val (.bool true), a7, .val (plD (i, j)), .val (.str q.s)]) ?h, ss_nx (app _ _ _)]
      · rfl
      case h =>
        rw [s_if_t hc]
        rw [ss_nx (s_set (den_ix (x := .list [.str "less", .str "greater", .str "equal"]) rfl (den_call (ars := [.slo 0, .dat (.int 3)]) rfl e4) hq))]
        rfl
    · refine ⟨c3, k3, ((i, j), ansOf e x (i, j)), .val (plD (i, j)), .val (.str (ansOf e x (i, j)).s), hp, fun z => (by cases z), ?_⟩
      rw [decide_eq_false hu0] at hc
      rw [ss_nx (s_if_f hc), ss_nx (app _ _ _)]
      rfl
structure StoryOf (r n : Nat) (e : Nat → Nat → Int) (x : Int) (most : Nat) (bent : Bool) (s : List Lk) : Prop where
  len : s.length ≤ most
  ins : ∀ l ∈ s, inSz r n l.1
  tru : bent = false → ∀ l ∈ s, l.2 = ansOf e x l.1
theorem story_run (Dc : DiceOk Δ) (La : SpLAnswer Δ) (c0 k0 x : Int) {r n : Nat} {e : Nat → Nat → Int} (hr : 1 ≤ r ∧ r ≤ 4) (hn : 1 ≤ n ∧ n ≤ 4) (most : Nat) (hm : most ≤ 20) (bent : Bool) : ∃ (s : List Lk) (c1 k1 : Int) (ρ' : Rho), StoryOf r n e x most bent s ∧
    denSs Δ G B__law_any_story [.own true [.int c0, .int k0], .val (tbD r n e), .val (.int x), .val (.int most), .val (.bool bent), .un, .un, .un, .un, .un] = .rt (stD s) (.own true [.int c1, .int k1] :: .val (tbD r n e) :: .val (.int x) :: .val (.int most) :: .val (.bool bent) :: ρ') := by
  obtain ⟨u, c1, k1, hu, e1⟩ := roll_nat Dc (ρ := [.own true [.int c0, .int k0], .val (tbD r n e), .val (.int x), .val (.int most), .val (.bool bent), .un, .un, .un, .un, .un]) (j := 0) (fx := true) (m := 3) rfl (by omega) (by omega)
  simp only [List.set_cons_zero] at e1
  obtain ⟨w, c2, k2, hw, e2⟩ : ∃ (w : Bool) (c2 k2 : Int), (bent = false → w = false) ∧ denS Δ G (.par 5 6 (.lst (.val (.and (.cons (.var 4) (.cons (.cmp .eq (.call 8 false (.slo 0 (.val (.int 3) .nil))) (.int 0)) .nil))) .nil))) [.own true [.int c0, .int k0], .val (tbD r n e), .val (.int x), .val (.int most), .val (.bool bent), .un, .un, .un, .un, .un] = .nx [.own true [.int c2, .int k2], .val (tbD r n e), .val (.int x), .val (.int most), .val (.bool bent), .own false [], .val (.bool w), .un, .un, .un] := by
    cases bent with
    | false => exact ⟨false, c0, k0, fun _ => rfl, rfl⟩
    | true =>
      have e1' : callD (Δ 8) false [.slo 0, .dat (.int 3)] [.own true [.int c0, .int k0], .val (tbD r n e), .val (.int x), .val (.int most), .val (.bool true), .un, .un, .un, .un, .un] = .ok (.int u) [.own true [.int c1, .int k1], .val (tbD r n e), .val (.int x), .val (.int most), .val (.bool true), .un, .un, .un, .un, .un] := e1
      exact ⟨decide ((u : Int) = 0), c1, k1, fun z => (by cases z), by simp [denSs, denS, den, dens, denAnd, denOr, denO, denA, denI, denT, denF, setR, ifR, bin2, un1, notD, chain2, andB, orB, iteB, tupR, lstR, consR, consG, datR, sloR, argSl, bltR, isiR, rdv, ixvR, held, isUn, subS, lenvR, lenS, callR, SR.seq, Res.to, B2.den, add_i, sub_i, C2.den, icmp, negD, itR, itsD, e1', putR, consF, valF, putF, Fl.sl]⟩
  obtain ⟨t, c3, k3, htt, e3⟩ := roll_nat Dc (ρ := [.own true [.int c2, .int k2], .val (tbD r n e), .val (.int x), .val (.int most), .val (.bool bent), .own false [], .val (.bool w), .un, .un, .un]) (j := 0) (fx := true) (m := most + 1) rfl (by omega) (by omega)
  simp only [List.set_cons_zero] at e3
  show ∃ s c1 k1 ρ', StoryOf r n e x most bent s ∧ denSs Δ G (.cons _ (.cons (.for_ (.nm 7) (.rng1 (.call 8 false (.slo 0 (.val (.bin .add (.var 3) (.int 1)) .nil)))) bStory) _)) _ = _
  obtain ⟨ρ', e4, c4, k4, s, a7, a8, a9, rfl, h1, h2, h3⟩ := for_inv (p := .nm 7) (body := denSs Δ G bStory) (fun i : Nat => PyData.int (i : Int))
    (fun m ρ => ∃ (c k : Int) (s : List Lk) (a7 a8 a9 : Sl), ρ = [.own true [.int c, .int k], .val (tbD r n e), .val (.int x), .val (.int most), .val (.bool bent), .own false (s.map lkD), .val (.bool w), a7, a8, a9] ∧ s.length = m ∧ (∀ l ∈ s, inSz r n l.1) ∧ (w = false → ∀ l ∈ s, l.2 = ansOf e x l.1)) (List.range t) [.own true [.int c3, .int k3], .val (tbD r n e), .val (.int x), .val (.int most), .val (.bool bent), .own false [], .val (.bool w), .un, .un, .un]
    ⟨c3, k3, [], _, _, _, rfl, rfl, fun l h => by simp at h, fun _ l h => by simp at h⟩ (fun m y ρ hy hI => by
      obtain ⟨c, k, s, a7, a8, a9, rfl, h1, h2, h3⟩ := hI
      have hm' : m < t := by
        have := (List.getElem?_eq_some_iff.mp hy).1
        simpa using this
      obtain ⟨c5, k5, l, b8, b9, g1, g2, g3⟩ := look_turn (G := G) Dc La c k x (e := e) hr hn (.int most) (.bool bent) w s (by omega) (.val (.int y)) a8 a9
      refine ⟨_, _, rfl, g3, c5, k5, s ++ [l], _, _, _, rfl, by rw [List.length_append, h1]; rfl, fun z hz => ?_, fun hw z hz => ?_⟩
      · rcases List.mem_append.mp hz with hz | hz
        · exact h2 z hz
        · rw [List.mem_singleton.mp hz]; exact g1
      · rcases List.mem_append.mp hz with hz | hz
        · exact h3 hw z hz
        · rw [List.mem_singleton.mp hz]; exact g2 hw)
  rw [List.length_range] at h1
  refine ⟨s, c4, k4, [.val (.list (s.map lkD)), .val (.bool w), a7, a8, a9], ⟨by omega, h2, fun hb => h3 (hw hb)⟩, ?_⟩
  rw [ss_nx e2, ss_cons, s_for1 (n := t) (den_call (ars := [.slo 0, .dat (.int ((most + 1 : Nat) : Int))]) rfl e3) (by omega), e4, SR.seq_nx]
  exact ss_rt (s_ret rfl)
end
structure StyOk (Δ : Nat → Fn) : Prop where
  ar : (Δ i__law_any_story).ar = 5
  sty : ∀ (c k x : Int) (r n : Nat) e (most : Nat) (bent : Bool), (1 ≤ r ∧ r ≤ 4) → (1 ≤ n ∧ n ≤ 4) → most ≤ 20 → ∃ s, ∃ c1 k1 : Int, StoryOf r n e x most bent s ∧ (Δ i__law_any_story).sem [.own true [.int c, .int k], .val (tbD r n e), .val (.int x), .val (.int most), .val (.bool bent)] = .ok (stD s) [.own true [.int c1, .int k1], .un, .un, .un, .un]
theorem sty_of {Δ Δ1 : Nat → Fn} {G1 : List (Str × D)} (h : Δ i__law_any_story = F__law_any_story.fn Δ1 G1) (Dc : DiceOk Δ1) (La : SpLAnswer Δ1) : StyOk Δ :=
  ⟨by rw [h]; rfl, fun c0 k0 x r n e most bent hr hn hm => by
    obtain ⟨s, c1, k1, ρ', hs, ev⟩ := story_run (G := G1) Dc La c0 k0 x (e := e) hr hn most hm bent
    refine ⟨s, c1, k1, hs, ?_⟩
    rw [h]
    exact run_rt (L := 10) (ss := [.own true [.int c0, .int k0], .val (tbD r n e), .val (.int x), .val (.int most), .val (.bool bent)]) ev rfl⟩
theorem sty_call {Δ : Nat → Fn} (Y : StyOk Δ) {ρ : Rho} {j : Nat} {fx : Bool} {c k : Int} {r n : Nat} {e : Nat → Nat → Int} (x : Int) (most : Nat) (bent : Bool) (hj : ρ[j]? = some (.own fx [.int c, .int k])) (hr : 1 ≤ r ∧ r ≤ 4) (hn : 1 ≤ n ∧ n ≤ 4) (hm : most ≤ 20) :
    ∃ s, ∃ c1 k1 : Int, StoryOf r n e x most bent s ∧ callD (Δ i__law_any_story) false [.slo j, .dat (tbD r n e), .dat (.int x), .dat (.int most), .dat (.bool bent)] ρ = .ok (stD s) (ρ.set j (.own fx [.int c1, .int k1])) := by
  obtain ⟨s, c1, k1, hs, ev⟩ := Y.sty c k x r n e most bent hr hn hm
  refine ⟨s, c1, k1, hs, callD_ok (ss := [.own true [.int c, .int k], .val (tbD r n e), .val (.int x), .val (.int most), .val (.bool bent)]) ?_ rfl Y.ar ev ?_⟩
  · simp [argSls, argSl, hj]
  · simp [wback, hj, reown]
/-! ### right answers do not clash -/
theorem mono_row {r c : Nat} {e : Nat → Nat → Int} (h : Rising r c e) {i j : Nat} (hi : i < r) : ∀ k, j + k < c → e i j + k ≤ e i (j + k)
  | 0, _ => by simp
  | k + 1, hk => by
    have := mono_row h (j := j) hi k (by omega)
    have := h.row i (j + k) hi hk
    rw [← Nat.add_assoc]
    omega
theorem mono_col {r c : Nat} {e : Nat → Nat → Int} (h : Rising r c e) {i j : Nat} (hj : j < c) : ∀ k, i + k < r → e i j + k ≤ e (i + k) j
  | 0, _ => by simp
  | k + 1, hk => by
    have := mono_col h (i := i) hj k (by omega)
    have := h.col (i + k) j hk hj
    rw [← Nat.add_assoc]
    omega
theorem mono {r c : Nat} {e : Nat → Nat → Int} (h : Rising r c e) {p q : Pl} (hq : inSz r c q) (hu : upTo p q = true) : e p.1 p.2 ≤ e q.1 q.2 ∧ (p ≠ q → e p.1 p.2 < e q.1 q.2) := by
  simp only [upTo, Bool.and_eq_true, decide_eq_true_eq] at hu
  obtain ⟨h1, h2⟩ := hu
  obtain ⟨q1, q2⟩ := hq
  have a := mono_row h (i := p.1) (j := p.2) (by omega) (q.2 - p.2) (by omega)
  have b := mono_col h (i := p.1) (j := q.2) q2 (q.1 - p.1) (by omega)
  rw [show p.2 + (q.2 - p.2) = q.2 by omega] at a
  rw [show p.1 + (q.1 - p.1) = q.1 by omega] at b
  refine ⟨by omega, fun hne => ?_⟩
  have : ¬ (p.1 = q.1 ∧ p.2 = q.2) := fun z => hne (Prod.ext z.1 z.2)
  omega
theorem ans_le {e : Nat → Nat → Int} {x : Int} {p : Pl} : ansOf e x p = .le ↔ e p.1 p.2 < x := by
  unfold ansOf; split
  · simp [*]
  · split <;> simp [*]
theorem ans_gr {e : Nat → Nat → Int} {x : Int} {p : Pl} : ansOf e x p = .gr ↔ x < e p.1 p.2 := by
  unfold ansOf; split
  · simp; omega
  · split <;> simp [*]
theorem ans_eq {e : Nat → Nat → Int} {x : Int} {p : Pl} : ansOf e x p = .eq ↔ e p.1 p.2 = x := by
  unfold ansOf; split
  · simp; omega
  · split
    · simp; omega
    · simp; omega
theorem cl_right {r c : Nat} {e : Nat → Nat → Int} {x : Int} (h : Rising r c e) {a b : Lk} (ha : inSz r c a.1) (hb : inSz r c b.1) (ea : a.2 = ansOf e x a.1) (eb : b.2 = ansOf e x b.1) : clB a b = false := by
  cases hcl : clB a b with
  | false => rfl
  | true =>
    exfalso
    unfold clB at hcl
    cases h2 : a.2 with
    | le =>
      rw [h2] at hcl
      simp only [Bool.and_eq_true, Bool.not_eq_true', decide_eq_false_iff_not] at hcl
      have m := (mono h ha hcl.2).1
      have l := ans_le.mp (ea.symm.trans h2)
      exact hcl.1 (eb.trans (ans_le.mpr (by omega)))
    | gr =>
      rw [h2] at hcl
      simp only [Bool.and_eq_true, Bool.not_eq_true', decide_eq_false_iff_not] at hcl
      have m := (mono h hb hcl.2).1
      have l := ans_gr.mp (ea.symm.trans h2)
      exact hcl.1 (eb.trans (ans_gr.mpr (by omega)))
    | eq =>
      rw [h2] at hcl
      simp only [Bool.and_eq_true, Bool.not_eq_true', decide_eq_false_iff_not, decide_eq_true_eq] at hcl
      have m := (mono h hb hcl.2.2).2 hcl.2.1
      have l := ans_eq.mp (ea.symm.trans h2)
      have l2 := ans_eq.mp (eb.symm.trans hcl.1)
      omega
theorem lkAt_mem {s : List Lk} {i : Nat} (h : i < s.length) : lkAt s i ∈ s := List.mem_of_getElem? (lk_at h)
theorem fcs_none {s : List Lk} : fcs s = none ↔ ∀ i j, i < j → j < s.length → cl2 (lkAt s i) (lkAt s j) = false := by
  unfold fcs
  rw [Option.map_eq_none_iff, List.find?_eq_none]
  constructor
  · intro h i j hij hj
    have := h i (List.mem_range.mpr (by omega))
    simp only [Bool.not_eq_true, Option.isSome_eq_false_iff, Option.isNone_iff_eq_none] at this
    have := List.find?_eq_none.mp this (j - (i + 1)) (List.mem_range.mpr (by omega))
    rw [show i + 1 + (j - (i + 1)) = j by omega] at this
    simpa using this
  · intro h i hi
    have hi := List.mem_range.mp hi
    simp only [Bool.not_eq_true, Option.isSome_eq_false_iff, Option.isNone_iff_eq_none]
    exact List.find?_eq_none.mpr fun k hk => by
      have hk := List.mem_range.mp hk
      rw [h i (i + 1 + k) (by omega) (by omega)]; simp
theorem fcs_right {r c : Nat} {e : Nat → Nat → Int} {x : Int} (h : Rising r c e) {s : List Lk} (hs : ∀ l ∈ s, inSz r c l.1) (ht : ∀ l ∈ s, l.2 = ansOf e x l.1) : fcs s = none := by
  rw [fcs_none]
  intro i j hij hj
  have m1 := lkAt_mem (show i < s.length by omega)
  have m2 := lkAt_mem hj
  unfold cl2
  rw [cl_right h (hs _ m1) (hs _ m2) (ht _ m1) (ht _ m2), cl_right h (hs _ m2) (hs _ m1) (ht _ m2) (ht _ m1)]
  rfl
end Dm
namespace Dm
open PySem PySem.Spec PyProof.Rows L2 LamX
/-! ### more pieces -/
section
variable {Δ : Nat → Fn} {G : List (Str × D)} {a b c : IE} {ρ ρ1 ρ2 ρ3 : Rho} {x y z d : D}
theorem den_ne (h1 : den Δ G a ρ = .ok x ρ1) (h2 : den Δ G b ρ1 = .ok y ρ2) (h : neD x y = some z) : den Δ G (.cmp .ne a b) ρ = .ok z ρ2 := den_cmp (o := .ne) h1 h2 h
theorem den_eq (h1 : den Δ G a ρ = .ok x ρ1) (h2 : den Δ G b ρ1 = .ok y ρ2) (h : eqD x y = some z) : den Δ G (.cmp .eq a b) ρ = .ok z ρ2 := den_cmp (o := .eq) h1 h2 h
theorem den_notn (h1 : den Δ G a ρ = .ok x ρ1) (h2 : den Δ G b ρ1 = .ok .none ρ2) : den Δ G (.cmp .notn a b) ρ = .ok (.bool (!isNone x)) ρ2 := den_cmp (o := .notn) h1 h2 (by cases x <;> rfl)
theorem den_isn (h1 : den Δ G a ρ = .ok x ρ1) (h2 : den Δ G b ρ1 = .ok .none ρ2) : den Δ G (.cmp .isn a b) ρ = .ok (.bool (isNone x)) ρ2 := den_cmp (o := .isn) h1 h2 (by cases x <;> rfl)
end
theorem size_tab_num {Δ : Nat → Fn} {G : List (Str × D)} (S : SizeOk Δ) (T : TabOk Δ) (N : NumOk Δ) (L : Nat) (hL : 5 ≤ L) (cl : Int) (m : Nat) (hm : 0 < m) (hm2 : m ≤ 4) (rest : ISs) : ∃ (r c : Nat) (e : Nat → Nat → Int) (x c' k' : Int), (1 ≤ r ∧ r ≤ m) ∧ (1 ≤ c ∧ c ≤ m) ∧ Tbl r c e ∧ (-20 ≤ x ∧ x ≤ 401) ∧
    denSs Δ G (.cons (.set 2 (.call i__law_any_size false (.slo 1 (.val (.int m) .nil)))) (.cons (.set 3 (.call i__law_any_table false (.slo 1 (.val (.var 2) .nil)))) (.cons (.set 4 (.call i__law_any_number false (.slo 1 (.val (.var 3) .nil)))) rest))) (lawRho L cl) = denSs Δ G rest ([.un, .own false [.int c', .int k'], .val (szD r c), .val (tbD r c e), .val (.int x)] ++ List.replicate (L - 5) .un) := by
  obtain ⟨r, c, e, c1, k1, hr, hc, ht, e1⟩ := size_tab (G := G) S T L (by omega) cl m hm hm2 (.cons (.set 4 (.call i__law_any_number false (.slo 1 (.val (.var 3) .nil)))) rest)
  obtain ⟨n, rfl⟩ : ∃ n, L = n + 5 := ⟨L - 5, by omega⟩
  obtain ⟨x, c2, k2, hx, e2⟩ := num_call N (ρ := .un :: .own false [.int c1, .int k1] :: .val (szD r c) :: .val (tbD r c e) :: .un :: List.replicate n .un) (j := 1) (fx := false) (c := c1) (k := k1) rfl (r := r) (n := c) (by omega) (by omega) ht
  refine ⟨r, c, e, x, c2, k2, hr, hc, ht, hx, ?_⟩
  rw [e1]
  have e0 : ([.un, .own false [.int c1, .int k1], .val (szD r c), .val (tbD r c e)] ++ List.replicate (n + 5 - 4) .un : Rho) = .un :: .own false [.int c1, .int k1] :: .val (szD r c) :: .val (tbD r c e) :: .un :: List.replicate n .un := by
    rw [show n + 5 - 4 = n + 1 by omega, List.replicate_succ]; rfl
  rw [e0, ss_nx (ρ1 := .un :: .own false [.int c2, .int k2] :: .val (szD r c) :: .val (tbD r c e) :: .val (.int x) :: List.replicate n .un) ?h]
  · rw [show n + 5 - 5 = n by omega]; rfl
  case h =>
    simp only [List.set_cons_succ, List.set_cons_zero] at e2
    simp [denSs, denS, den, dens, denAnd, denOr, denO, denA, denI, denT, denF, setR, ifR, bin2, un1, notD, chain2, andB, orB, iteB, tupR, lstR, consR, consG, datR, sloR, argSl, bltR, isiR, rdv, ixvR, held, isUn, subS, lenvR, lenS, callR, SR.seq, Res.to, B2.den, add_i, sub_i, C2.den, icmp, negD, itR, itsD, e2]
theorem ne_fc (o : Option (Nat × Nat)) : neD (fcD o) (fcD o) = some (.bool false) := by
  cases o with
  | none => kernel_rfl
  | some p => rw [fcD, ne_pl]; simp
theorem isSt_app {r n : Nat} {ds : List D} {x : D} (h : isLk r n x = false) : isSt r n (.tuple (ds ++ [x])) = false := by
  show (_ && (ds ++ [x]).all (isLk r n)) = false
  rw [List.all_append]
  simp [h]
theorem lk_ans {r n : Nat} {p a : D} (h : isAn a = false) : isLk r n (.tuple [p, a]) = false := by
  simp [isLk, h]
theorem lk_pl {r n : Nat} {p a : D} (h : isPl r n p = false) : isLk r n (.tuple [p, a]) = false := by
  simp [isLk, h]
theorem pl_sz (r n : Nat) : isPl r n (szD r n) = false := by
  simp [isPl, szD, isWh]
  intro h
  omega
theorem pl_neg (r n : Nat) (b : D) : isPl r n (.tuple [.int (-1), b]) = false := rfl
theorem pl_bool (r n : Nat) (b : D) : isPl r n (.tuple [.bool true, b]) = false := rfl
theorem isSt_long {r n : Nat} {ds : List D} (h : 20 < ds.length) : isSt r n (.tuple ds) = false := by
  show (decide (ds.length ≤ 20) && _) = false
  rw [decide_eq_false (by omega)]; rfl
end Dm
namespace Dm
open PySem PySem.Spec PyProof.Rows L2 LamX
/-! ### surely, left, fitting, witness -/
def slB (p : Pl) (a : Lk) : Bool := (decide (a.2 = .le) && upTo p a.1) || (decide (a.2 = .eq) && (!decide (p = a.1) && upTo p a.1))
def sgB (p : Pl) (a : Lk) : Bool := (decide (a.2 = .gr) && upTo a.1 p) || (decide (a.2 = .eq) && (!decide (p = a.1) && upTo a.1 p))
def sureL (s : List Lk) (p : Pl) : Bool := s.any (slB p)
def sureG (s : List Lk) (p : Pl) : Bool := s.any (sgB p)
def bSl : ISs := .cons (.ifs (.and (.cons (.cmp .eq (.var 3) (.str "less")) (.cons (.call 36 false (.val (.var 1) (.val (.var 2) .nil))) .nil))) (.cons (.ret (.bl true)) .nil) .nil) (.cons (.ifs (.and (.cons (.cmp .eq (.var 3) (.str "equal")) (.cons (.cmp .ne (.var 1) (.var 2)) (.cons (.call 36 false (.val (.var 1) (.val (.var 2) .nil))) .nil)))) (.cons (.ret (.bl true)) .nil) .nil) .nil)
def bSg : ISs := .cons (.ifs (.and (.cons (.cmp .eq (.var 3) (.str "greater")) (.cons (.call 36 false (.val (.var 2) (.val (.var 1) .nil))) .nil))) (.cons (.ret (.bl true)) .nil) .nil) (.cons (.ifs (.and (.cons (.cmp .eq (.var 3) (.str "equal")) (.cons (.cmp .ne (.var 1) (.var 2)) (.cons (.call 36 false (.val (.var 2) (.val (.var 1) .nil))) .nil)))) (.cons (.ret (.bl true)) .nil) .nil) .nil)
theorem an_ne1 : ¬ An.gr = An.le := by decide
section
variable {Δ1 : Nat → Fn} {G : List (Str × D)}
theorem sl_in (c1 : SpUp Δ1) (A : Sl) (p : Pl) (a : Lk) : denSs Δ1 G bSl [A, .val (plD p), .val (plD a.1), .val (.str a.2.s)] = if slB p a then .rt (.bool true) [A, .val (plD p), .val (plD a.1), .val (.str a.2.s)] else .nx [A, .val (plD p), .val (plD a.1), .val (.str a.2.s)] := by
  obtain ⟨q, y⟩ := a
  have e1 := c1 p q
  unfold bSl slB
  cases y with
  | le => by_cases hu : upTo p q <;> simp [denSs, denS, den, dens, denAnd, denOr, denO, denA, denI, denT, denF, setR, ifR, bin2, un1, notD, chain2, andB, orB, iteB, tupR, lstR, consR, consG, datR, sloR, argSl, bltR, isiR, rdv, ixvR, held, isUn, subS, lenvR, lenS, callR, SR.seq, Res.to, B2.den, add_i, sub_i, C2.den, icmp, negD, itR, itsD, eq_less, eq_eq, e1, hu]
  | gr => simp [denSs, denS, den, dens, denAnd, denOr, denO, denA, denI, denT, denF, setR, ifR, bin2, un1, notD, chain2, andB, orB, iteB, tupR, lstR, consR, consG, datR, sloR, argSl, bltR, isiR, rdv, ixvR, held, isUn, subS, lenvR, lenS, callR, SR.seq, Res.to, B2.den, add_i, sub_i, C2.den, icmp, negD, itR, itsD, eq_less, eq_eq]
  | eq =>
    by_cases hp : p = q
    · simp [denSs, denS, den, dens, denAnd, denOr, denO, denA, denI, denT, denF, setR, ifR, bin2, un1, notD, chain2, andB, orB, iteB, tupR, lstR, consR, consG, datR, sloR, argSl, bltR, isiR, rdv, ixvR, held, isUn, subS, lenvR, lenS, callR, SR.seq, Res.to, B2.den, add_i, sub_i, C2.den, icmp, negD, itR, itsD, eq_less, eq_eq, ne_pl, hp]
    · by_cases hu : upTo p q <;> simp [denSs, denS, den, dens, denAnd, denOr, denO, denA, denI, denT, denF, setR, ifR, bin2, un1, notD, chain2, andB, orB, iteB, tupR, lstR, consR, consG, datR, sloR, argSl, bltR, isiR, rdv, ixvR, held, isUn, subS, lenvR, lenS, callR, SR.seq, Res.to, B2.den, add_i, sub_i, C2.den, icmp, negD, itR, itsD, eq_less, eq_eq, ne_pl, hp, e1, hu]
theorem sg_in (c1 : SpUp Δ1) (A : Sl) (p : Pl) (a : Lk) : denSs Δ1 G bSg [A, .val (plD p), .val (plD a.1), .val (.str a.2.s)] = if sgB p a then .rt (.bool true) [A, .val (plD p), .val (plD a.1), .val (.str a.2.s)] else .nx [A, .val (plD p), .val (plD a.1), .val (.str a.2.s)] := by
  obtain ⟨q, y⟩ := a
  have e1 := c1 q p
  unfold bSg sgB
  cases y with
  | gr => by_cases hu : upTo q p <;> simp [denSs, denS, den, dens, denAnd, denOr, denO, denA, denI, denT, denF, setR, ifR, bin2, un1, notD, chain2, andB, orB, iteB, tupR, lstR, consR, consG, datR, sloR, argSl, bltR, isiR, rdv, ixvR, held, isUn, subS, lenvR, lenS, callR, SR.seq, Res.to, B2.den, add_i, sub_i, C2.den, icmp, negD, itR, itsD, eq_gr, eq_eq, e1, hu]
  | le => simp [denSs, denS, den, dens, denAnd, denOr, denO, denA, denI, denT, denF, setR, ifR, bin2, un1, notD, chain2, andB, orB, iteB, tupR, lstR, consR, consG, datR, sloR, argSl, bltR, isiR, rdv, ixvR, held, isUn, subS, lenvR, lenS, callR, SR.seq, Res.to, B2.den, add_i, sub_i, C2.den, icmp, negD, itR, itsD, eq_gr, eq_eq]
  | eq =>
    by_cases hp : p = q
    · simp [denSs, denS, den, dens, denAnd, denOr, denO, denA, denI, denT, denF, setR, ifR, bin2, un1, notD, chain2, andB, orB, iteB, tupR, lstR, consR, consG, datR, sloR, argSl, bltR, isiR, rdv, ixvR, held, isUn, subS, lenvR, lenS, callR, SR.seq, Res.to, B2.den, add_i, sub_i, C2.den, icmp, negD, itR, itsD, eq_gr, eq_eq, ne_pl, hp]
    · by_cases hu : upTo q p <;> simp [denSs, denS, den, dens, denAnd, denOr, denO, denA, denI, denT, denF, setR, ifR, bin2, un1, notD, chain2, andB, orB, iteB, tupR, lstR, consR, consG, datR, sloR, argSl, bltR, isiR, rdv, ixvR, held, isUn, subS, lenvR, lenS, callR, SR.seq, Res.to, B2.den, add_i, sub_i, C2.den, icmp, negD, itR, itsD, eq_gr, eq_eq, ne_pl, hp, e1, hu]
end
def SpSureL (Δ : Nat → Fn) : Prop := ∀ (s : List Lk) (p : Pl) ρ, callD (Δ i_is_surely_less) false [.dat (stD s), .dat (plD p)] ρ = .ok (.bool (sureL s p)) ρ
theorem find_any {α : Type} (q : α → Bool) (xs : List α) : xs.any q = (xs.find? q).isSome := by
  induction xs with
  | nil => rfl
  | cons x xs ih =>
    rw [List.any_cons, List.find?_cons, ih]
    cases q x <;> rfl
theorem sp_surel {Δ Δ1 : Nat → Fn} {G : List (Str × D)} (h : Δ i_is_surely_less = F_is_surely_less.fn Δ1 G) (c1 : SpUp Δ1) : SpSureL Δ := fun s p ρ => by
  refine call_rt (ds := [stD s, plD p]) h rfl ?_ ρ
  show Rt 2 _ (denSs Δ1 G (.cons (.for_ (.tp (.cons (.nm 2) (.cons (.nm 3) .nil))) (.dat (.var 0)) bSl) (.cons (.ret (.bl false)) .nil)) [.val (stD s), .val (plD p), .un, .un])
  rw [ss_cons, s_forD (d := stD s) (ds := s.map lkD) (ρ1 := [.val (stD s), .val (plD p), .un, .un]) rfl rfl]
  obtain ⟨ρ', ⟨a, b, rfl⟩, ev⟩ := for_find (p := .tp (.cons (.nm 2) (.cons (.nm 3) .nil))) (body := denSs Δ1 G bSl) lkD (slB p) (fun _ => .bool true) (fun ρ => ∃ a b, ρ = [.val (stD s), .val (plD p), a, b]) s [.val (stD s), .val (plD p), .un, .un] ⟨_, _, rfl⟩ (fun l hl ρ hρ => by
    obtain ⟨a, b, rfl⟩ := hρ
    refine ⟨[.val (stD s), .val (plD p), .val (plD l.1), .val (.str l.2.s)], rfl, ?_⟩
    rw [sl_in c1]
    split <;> exact ⟨_, rfl, _, _, rfl⟩)
  rw [ev]
  unfold sureL
  rw [find_any]
  cases hf : s.find? (slB p) with
  | none => exact Rt.of rfl (by simp)
  | some p => exact Rt.of rfl (by simp)
def SpSureG (Δ : Nat → Fn) : Prop := ∀ (s : List Lk) (p : Pl) ρ, callD (Δ i_is_surely_greater) false [.dat (stD s), .dat (plD p)] ρ = .ok (.bool (sureG s p)) ρ
theorem sp_sureg {Δ Δ1 : Nat → Fn} {G : List (Str × D)} (h : Δ i_is_surely_greater = F_is_surely_greater.fn Δ1 G) (c1 : SpUp Δ1) : SpSureG Δ := fun s p ρ => by
  refine call_rt (ds := [stD s, plD p]) h rfl ?_ ρ
  show Rt 2 _ (denSs Δ1 G (.cons (.for_ (.tp (.cons (.nm 2) (.cons (.nm 3) .nil))) (.dat (.var 0)) bSg) (.cons (.ret (.bl false)) .nil)) [.val (stD s), .val (plD p), .un, .un])
  rw [ss_cons, s_forD (d := stD s) (ds := s.map lkD) (ρ1 := [.val (stD s), .val (plD p), .un, .un]) rfl rfl]
  obtain ⟨ρ', ⟨a, b, rfl⟩, ev⟩ := for_find (p := .tp (.cons (.nm 2) (.cons (.nm 3) .nil))) (body := denSs Δ1 G bSg) lkD (sgB p) (fun _ => .bool true) (fun ρ => ∃ a b, ρ = [.val (stD s), .val (plD p), a, b]) s [.val (stD s), .val (plD p), .un, .un] ⟨_, _, rfl⟩ (fun l hl ρ hρ => by
    obtain ⟨a, b, rfl⟩ := hρ
    refine ⟨[.val (stD s), .val (plD p), .val (plD l.1), .val (.str l.2.s)], rfl, ?_⟩
    rw [sg_in c1]
    split <;> exact ⟨_, rfl, _, _, rfl⟩)
  rw [ev]
  unfold sureG
  rw [find_any]
  cases hf : s.find? (sgB p) with
  | none => exact Rt.of rfl (by simp)
  | some p => exact Rt.of rfl (by simp)
/-! ### left places -/
def okMore (s : List Lk) (p : Pl) : Bool := (fcs (s ++ [(p, .eq)])).isNone
def leftP (r c : Nat) (s : List Lk) : List Pl := (allP r c).filter (okMore s)
theorem isNone_fc (o : Option (Nat × Nat)) : isNone (fcD o) = o.isNone := by cases o <;> rfl
theorem st_app (s : List Lk) (l : Lk) (h : s.length ≤ 900) : addD (stD s) (.tuple [lkD l]) = some (stD (s ++ [l])) := by
  unfold stD
  rw [add_tup _ _ (by simp; omega), List.map_append]
  rfl
def SpLeftPl (Δ : Nat → Fn) : Prop := ∀ (r c : Nat) (s : List Lk) ρ, r ≤ 4 → c ≤ 4 → s.length ≤ 900 → callD (Δ i_left_places) false [.dat (szD r c), .dat (stD s)] ρ = .ok (.list (plsD (leftP r c s))) ρ
theorem sp_leftpl {Δ Δ1 : Nat → Fn} {G : List (Str × D)} (h : Δ i_left_places = F_left_places.fn Δ1 G) (c1 : SpPlaces Δ1) (c2 : SpFirst Δ1) : SpLeftPl Δ := fun r c s ρ hr hc hs => by
  refine call_rt (ds := [szD r c, stD s]) h rfl ?_ ρ
  show Rt 2 _ (denSs Δ1 G B_left_places [.val (szD r c), .val (stD s), .un])
  unfold B_left_places
  rw [ss_rt (s_ret (d := .list (plsD (leftP r c s))) (ρ1 := [.val (szD r c), .val (stD s), .un]) ?h)]
  · exact Rt.of rfl (by simp)
  case h =>
    refine comp_nmF (allP r c) plD plD (okMore s) rfl ?_ (allP_len r c (by omega) (by omega)) (fun p hp => ?_) (fun p hp hq => rfl)
    · show (itR _) _ = _
      unfold itR
      rw [den_call (ars := [.dat (szD r c)]) rfl (c1 r c _ hr hc)]
      rfl
    · show den Δ1 G _ [.val (szD r c), .val (stD s), .val (plD p)] = _
      have := den_isn (b := .non) (den_call (Δ := Δ1) (G := G) (ars := [.dat (stD (s ++ [(p, .eq)]))]) (ρ := [.val (szD r c), .val (stD s), .val (plD p)]) (ρ1 := [.val (szD r c), .val (stD s), .val (plD p)]) (as := .val (.bin .add (.var 1) (.tup (.cons (.tup (.cons (.var 2) (.cons (.str "equal") .nil))) .nil))) .nil) (f := 38) ?_ (c2 (s ++ [(p, .eq)]) _ (by simp; omega))) rfl
      · rw [this, isNone_fc]; rfl
      · have e := st_app s (p, .eq) hs
        simp only [lkD, An.s] at e
        simp [denSs, denS, den, dens, denAnd, denOr, denO, denA, denI, denT, denF, setR, ifR, bin2, un1, notD, chain2, andB, orB, iteB, tupR, lstR, consR, consG, datR, sloR, argSl, bltR, isiR, rdv, ixvR, held, isUn, subS, lenvR, lenS, callR, SR.seq, Res.to, B2.den, add_i, sub_i, C2.den, icmp, negD, itR, itsD, e]
structure SpLeft (Δ : Nat → Fn) : Prop where
  ok : ∀ (r c : Nat) s ρ, isSz (szD r c) = true → isSt r c (stD s) = true → s.length ≤ 900 → r ≤ 4 → c ≤ 4 → fcs s = none → callD (Δ i_left) false [.dat (szD r c), .dat (stD s)] ρ = .ok (.tuple (plsD (leftP r c s))) ρ
  cl : ∀ (r c : Nat) s ρ, isSz (szD r c) = true → isSt r c (stD s) = true → s.length ≤ 900 → (fcs s).isSome = true → callD (Δ i_left) false [.dat (szD r c), .dat (stD s)] ρ = .exc .clash ρ
theorem sp_left {Δ Δ1 : Nat → Fn} {G : List (Str × D)} (h : Δ i_left = F_left.fn Δ1 G) (c1 : SpNeedStory Δ1) (c2 : SpLeftPl Δ1) : SpLeft Δ := by
  refine ⟨fun r c s ρ hs hd hl hr hc hf => call_rt (ds := [szD r c, stD s]) h rfl ?_ ρ, fun r c s ρ hs hd hl hf => call_xc (ds := [szD r c, stD s]) h rfl ?_ ρ⟩
  · have e1 := fun ρ => c1.ok r c s ρ hs hd (by omega) hf
    have e2 := fun ρ => c2 r c s ρ hr hc hl
    show Rt 2 _ (denSs Δ1 G B_left [.val (szD r c), .val (stD s)])
    unfold B_left
    simp [denSs, denS, den, dens, denAnd, denOr, denO, denA, denI, denT, denF, setR, ifR, bin2, un1, notD, chain2, andB, orB, iteB, tupR, lstR, consR, consG, datR, sloR, argSl, bltR, isiR, rdv, ixvR, held, isUn, subS, lenvR, lenS, callR, SR.seq, Res.to, B2.den, add_i, sub_i, C2.den, icmp, negD, itR, itsD, e1, e2]
  · have e1 := fun ρ => c1.cl r c s ρ hs hd (by omega) hf
    show Xc 2 .clash (denSs Δ1 G B_left [.val (szD r c), .val (stD s)])
    unfold B_left
    simp [denSs, denS, den, dens, denAnd, denOr, denO, denA, denI, denT, denF, setR, ifR, bin2, un1, notD, chain2, andB, orB, iteB, tupR, lstR, consR, consG, datR, sloR, argSl, bltR, isiR, rdv, ixvR, held, isUn, subS, lenvR, lenS, callR, SR.seq, Res.to, B2.den, add_i, sub_i, C2.den, icmp, negD, itR, itsD, e1]
structure SpSurely (Δ : Nat → Fn) : Prop where
  ok : ∀ (r c : Nat) s ρ, isSz (szD r c) = true → isSt r c (stD s) = true → s.length ≤ 900 → r ≤ 4 → c ≤ 4 → fcs s = none → callD (Δ i_surely) false [.dat (szD r c), .dat (stD s)] ρ = .ok (.tuple [.tuple (plsD ((allP r c).filter (sureL s))), .tuple (plsD ((allP r c).filter (sureG s)))]) ρ
  cl : ∀ (r c : Nat) s ρ, isSz (szD r c) = true → isSt r c (stD s) = true → s.length ≤ 900 → (fcs s).isSome = true → callD (Δ i_surely) false [.dat (szD r c), .dat (stD s)] ρ = .exc .clash ρ
theorem sp_surely {Δ Δ1 : Nat → Fn} {G : List (Str × D)} (h : Δ i_surely = F_surely.fn Δ1 G) (c1 : SpNeedStory Δ1) (c2 : SpPlaces Δ1) (c3 : SpSureL Δ1) (c4 : SpSureG Δ1) : SpSurely Δ := by
  refine ⟨fun r c s ρ hs hd hl hr hc hf => call_rt (ds := [szD r c, stD s]) h rfl ?_ ρ, fun r c s ρ hs hd hl hf => call_xc (ds := [szD r c, stD s]) h rfl ?_ ρ⟩
  · have e1 := fun ρ => c1.ok r c s ρ hs hd (by omega) hf
    show Rt 2 _ (denSs Δ1 G B_surely [.val (szD r c), .val (stD s), .un, .un])
    unfold B_surely
    rw [ss_nx (ρ1 := [.val (szD r c), .val (stD s), .un, .un]) (by simp [denSs, denS, den, dens, denAnd, denOr, denO, denA, denI, denT, denF, setR, ifR, bin2, un1, notD, chain2, andB, orB, iteB, tupR, lstR, consR, consG, datR, sloR, argSl, bltR, isiR, rdv, ixvR, held, isUn, subS, lenvR, lenS, callR, SR.seq, Res.to, B2.den, add_i, sub_i, C2.den, icmp, negD, itR, itsD, e1])]
    rw [ss_nx (s_set (d := .tuple (plsD ((allP r c).filter (sureL s)))) (ρ1 := [.val (szD r c), .val (stD s), .un, .un]) (den_blt (dens_cons (x := .list (plsD ((allP r c).filter (sureL s)))) (ρ1 := [.val (szD r c), .val (stD s), .un, .un]) ?h1 dens_nil) rfl))]
    rw [ss_rt (s_ret (ρ1 := [.val (szD r c), .val (stD s), .un, .val (.tuple (plsD ((allP r c).filter (sureL s))))]) (den_tup (dens_cons (den_var rfl) (dens_cons (den_blt (dens_cons (x := .list (plsD ((allP r c).filter (sureG s)))) (ρ1 := [.val (szD r c), .val (stD s), .un, .val (.tuple (plsD ((allP r c).filter (sureL s))))]) ?h2 dens_nil) rfl) dens_nil))))]
    · exact Rt.of rfl (by simp)
    case h1 =>
      refine comp_nmF (allP r c) plD plD (sureL s) rfl ?_ (allP_len r c (by omega) (by omega)) (fun p hp => ?_) (fun p hp hq => rfl)
      · show (itR _) _ = _
        unfold itR
        rw [den_call (ars := [.dat (szD r c)]) rfl (c2 r c _ hr hc)]
        rfl
      · exact den_call (ars := [.dat (stD s), .dat (plD p)]) rfl (c3 s p _)
    case h2 =>
      refine comp_nmF (allP r c) plD plD (sureG s) rfl ?_ (allP_len r c (by omega) (by omega)) (fun p hp => ?_) (fun p hp hq => rfl)
      · show (itR _) _ = _
        unfold itR
        rw [den_call (ars := [.dat (szD r c)]) rfl (c2 r c _ hr hc)]
        rfl
      · exact den_call (ars := [.dat (stD s), .dat (plD p)]) rfl (c4 s p _)
  · have e1 := fun ρ => c1.cl r c s ρ hs hd (by omega) hf
    show Xc 2 .clash (denSs Δ1 G B_surely [.val (szD r c), .val (stD s), .un, .un])
    unfold B_surely
    simp [denSs, denS, den, dens, denAnd, denOr, denO, denA, denI, denT, denF, setR, ifR, bin2, un1, notD, chain2, andB, orB, iteB, tupR, lstR, consR, consG, datR, sloR, argSl, bltR, isiR, rdv, ixvR, held, isUn, subS, lenvR, lenS, callR, SR.seq, Res.to, B2.den, add_i, sub_i, C2.den, icmp, negD, itR, itsD, e1]
end Dm
namespace Dm
open PySem PySem.Spec PyProof.Rows L2 LamX
/-! ### a table that fits -/
def isEqP (s : List Lk) (p : Pl) : Bool := s.any fun l => decide (l.1 = p) && decide (l.2 = .eq)
def fitE (s : List Lk) (i j : Nat) : Int := if isEqP s (i, j) then 0 else (i : Int) + j + (if sureL s (i, j) then -100 else 100)
def eqsD (s : List Lk) : List D := (s.filter fun l => decide (l.2 = .eq)).map fun l => plD l.1
theorem inEqs (s : List Lk) (p : Pl) : inD (plD p) (.list (eqsD s)) = some (.bool (isEqP s p)) := by
  show (if (plD p).depth ≤ 60 then some (PyData.bool ((eqsD s).any fun z => PyData.eqv z (plD p))) else none) = _
  rw [if_pos (Nat.le_trans (dep_pl p) (by decide))]
  congr 2
  unfold eqsD isEqP
  rw [List.any_map]
  induction s with
  | nil => rfl
  | cons l s ih =>
    rw [List.filter_cons]
    by_cases h : l.2 = .eq
    · simp only [h, decide_true, if_true, List.any_cons, ih, Function.comp, eqv_pl, Bool.and_true]
    · simp only [h, decide_false, List.any_cons, ih, Bool.and_false, Bool.false_or, Bool.false_eq_true, if_false]
def bFIn : ISs := .cons (.set 2 (.tup (.cons (.var 6) (.cons (.var 8) .nil)))) (.cons (.ifs (.inS false 4 (.var 2)) (.cons (.app 7 (.int 0)) .nil) (.cons (.app 7 (.bin .add (.bin .add (.var 6) (.var 8)) (.ite (.call 45 false (.val (.var 1) (.val (.var 2) .nil))) (.neg (.int 100)) (.int 100)))) .nil)) .nil)
section
variable {Δ : Nat → Fn} {G : List (Str × D)}
theorem fin_ok (c1 : SpSureL Δ) (r c : Nat) (s : List Lk) (i j : Nat) (hj : j < 1000) (a2 a3 a5 : Sl) : denSs Δ G bFIn [.val (szD r c), .val (stD s), a2, a3, .val (.list (eqsD s)), a5, .val (.int i), .own false (entD i j (fitE s)), .val (.int j)] = .nx [.val (szD r c), .val (stD s), .val (plD (i, j)), a3, .val (.list (eqsD s)), a5, .val (.int i), .own false (entD i (j + 1) (fitE s)), .val (.int j)] := by
  have hl : (entD i j (fitE s)).length < 1000000 := by simp [entD]; omega
  have e1 := c1 s (i, j)
  have e2 := inEqs s (i, j)
  have hx : entD i (j + 1) (fitE s) = entD i j (fitE s) ++ [.int (fitE s i j)] := by
    unfold entD
    rw [List.range_succ, List.map_append]; rfl
  have hv : fitE s i j = if isEqP s (i, j) then 0 else (i : Int) + j + (if sureL s (i, j) then -100 else 100) := rfl
  rw [hx, hv]
  generalize entD i j (fitE s) = xs at hl ⊢
  unfold bFIn
  rw [ss_nx (s_set (d := plD (i, j)) (ρ1 := [.val (szD r c), .val (stD s), a2, a3, .val (.list (eqsD s)), a5, .val (.int i), .own false xs, .val (.int j)]) rfl)]
  show denSs Δ G _ [.val (szD r c), .val (stD s), .val (plD (i, j)), a3, .val (.list (eqsD s)), a5, .val (.int i), .own false xs, .val (.int j)] = _
  have hin : den Δ G (.inS false 4 (.var 2)) [.val (szD r c), .val (stD s), .val (plD (i, j)), a3, .val (.list (eqsD s)), a5, .val (.int i), .own false xs, .val (.int j)] = .ok (.bool (isEqP s (i, j))) [.val (szD r c), .val (stD s), .val (plD (i, j)), a3, .val (.list (eqsD s)), a5, .val (.int i), .own false xs, .val (.int j)] := by
    simp [den, inSR, rdv, e2]
  cases hq : isEqP s (i, j) with
  | true =>
    rw [hq] at hin
    rw [ss_nx (ρ1 := [.val (szD r c), .val (stD s), .val (plD (i, j)), a3, .val (.list (eqsD s)), a5, .val (.int i), .own false (xs ++ [.int 0]), .val (.int j)]) ?h]
    · rfl
    case h =>
      rw [s_if_t hin]
      simp [denSs, denS, den, dens, denAnd, denOr, denO, denA, denI, denT, denF, setR, ifR, bin2, un1, notD, chain2, andB, orB, iteB, tupR, lstR, consR, consG, datR, sloR, argSl, bltR, isiR, rdv, ixvR, held, isUn, subS, lenvR, lenS, callR, SR.seq, Res.to, B2.den, add_i, sub_i, C2.den, icmp, negD, itR, itsD, appR, isOwnS, hl]
  | false =>
    rw [hq] at hin
    rw [ss_nx (ρ1 := [.val (szD r c), .val (stD s), .val (plD (i, j)), a3, .val (.list (eqsD s)), a5, .val (.int i), .own false (xs ++ [.int ((i : Int) + j + (if sureL s (i, j) then -100 else 100))]), .val (.int j)]) ?h]
    · rfl
    case h =>
      rw [s_if hin]
      cases hs : sureL s (i, j) <;> rw [hs] at e1 <;> simp [denSs, denS, den, dens, denAnd, denOr, denO, denA, denI, denT, denF, setR, ifR, bin2, un1, notD, chain2, andB, orB, iteB, tupR, lstR, consR, consG, datR, sloR, argSl, bltR, isiR, rdv, ixvR, held, isUn, subS, lenvR, lenS, callR, SR.seq, Res.to, B2.den, add_i, sub_i, C2.den, icmp, negD, itR, itsD, appR, isOwnS, hl, e1]
theorem frow_ok (c1 : SpSureL Δ) (r c : Nat) (hc : c ≤ 4) (s : List Lk) (i : Nat) (a2 a3 a5 a8 : Sl) : ∃ b2 b8, denS Δ G (.for_ (.nm 8) (.rng1 (.ixv 0 (.int 1))) bFIn) [.val (szD r c), .val (stD s), a2, a3, .val (.list (eqsD s)), a5, .val (.int i), .own false [], a8] = .nx [.val (szD r c), .val (stD s), b2, a3, .val (.list (eqsD s)), a5, .val (.int i), .own false (entD i c (fitE s)), b8] := by
  rw [s_for1 (n := c) (ρ1 := [.val (szD r c), .val (stD s), a2, a3, .val (.list (eqsD s)), a5, .val (.int i), .own false [], a8]) (by simp [denSs, denS, den, dens, denAnd, denOr, denO, denA, denI, denT, denF, setR, ifR, bin2, un1, notD, chain2, andB, orB, iteB, tupR, lstR, consR, consG, datR, sloR, argSl, bltR, isiR, rdv, ixvR, held, isUn, subS, lenvR, lenS, callR, SR.seq, Res.to, B2.den, add_i, sub_i, C2.den, icmp, negD, itR, itsD, sz_1]) (by omega)]
  obtain ⟨ρ', e1, b2, b8, rfl⟩ := for_inv (p := .nm 8) (body := denSs Δ G bFIn) (fun i : Nat => PyData.int (i : Int)) (fun m ρ => ∃ b2 b8, ρ = [.val (szD r c), .val (stD s), b2, a3, .val (.list (eqsD s)), a5, .val (.int i), .own false (entD i m (fitE s)), b8]) (List.range c) [.val (szD r c), .val (stD s), a2, a3, .val (.list (eqsD s)), a5, .val (.int i), .own false [], a8] ⟨_, _, rfl⟩ (fun m x ρ hx hI => by
    have hm : m < c := by
      have := (List.getElem?_eq_some_iff.mp hx).1
      simpa using this
    have hx : x = m := by
      rw [List.getElem?_range hm] at hx
      exact (Option.some.inj hx).symm
    subst hx
    obtain ⟨b2, b8, rfl⟩ := hI
    exact ⟨_, _, rfl, fin_ok c1 r c s i x (by omega) b2 a3 a5, _, _, rfl⟩)
  rw [List.length_range] at e1
  exact ⟨b2, b8, e1⟩
theorem fit_run (c1 : SpSureL Δ) (r c : Nat) (hr : r ≤ 4) (hc : c ≤ 4) (s : List Lk) (hs : s.length ≤ 1000) : Rt 2 (.tuple [tbD r c (fitE s), .int 0]) (denSs Δ G B_fitting [.val (szD r c), .val (stD s), .un, .un, .un, .un, .un, .un, .un]) := by
  show Rt 2 _ (denSs Δ G (.cons (.set 4 (.comp (.tp (.cons (.nm 2) (.cons (.nm 3) .nil))) [("place", 2), ("answer", 3)] (.dat (.var 1)) (.tst (.cmp .eq (.var 3) (.str "equal"))) (.var 2))) (.cons (.setL 5) (.cons (.for_ (.nm 6) (.rng1 (.ixv 0 (.int 0))) (.cons (.setL 7) (.cons (.for_ (.nm 8) (.rng1 (.ixv 0 (.int 1))) bFIn) (.cons (.app 5 (.blt .tuple (.cons (.var 7) .nil))) .nil)))) (.cons (.ret (.tup (.cons (.blt .tuple (.cons (.var 5) .nil)) (.cons (.int 0) .nil)))) .nil)))) _)
  rw [ss_nx (s_set (d := .list (eqsD s)) (ρ1 := [.val (szD r c), .val (stD s), .un, .un, .un, .un, .un, .un, .un]) ?h1)]
  rw [ss_nx (ρ1 := [.val (szD r c), .val (stD s), .un, .un, .val (.list (eqsD s)), .own false [], .un, .un, .un]) rfl]
  rw [ss_cons, s_for1 (n := r) (ρ1 := [.val (szD r c), .val (stD s), .un, .un, .val (.list (eqsD s)), .own false [], .un, .un, .un]) (by simp [denSs, denS, den, dens, denAnd, denOr, denO, denA, denI, denT, denF, setR, ifR, bin2, un1, notD, chain2, andB, orB, iteB, tupR, lstR, consR, consG, datR, sloR, argSl, bltR, isiR, rdv, ixvR, held, isUn, subS, lenvR, lenS, callR, SR.seq, Res.to, B2.den, add_i, sub_i, C2.den, icmp, negD, itR, itsD, sz_0]) (by omega)]
  case h1 =>
    refine comp_tpF s (fun l => plD l.1) (fun l => .str l.2.s) (fun l => plD l.1) (fun l => decide (l.2 = .eq)) (by decide) rfl rfl rfl (by omega) (fun l hl => ?_) (fun l hl hq => rfl)
    exact den_eq rfl rfl (eq_eq l.2)
  obtain ⟨ρ', e1, b2, b6, b7, b8, rfl⟩ := for_inv (p := .nm 6) (body := denSs Δ G (.cons (.setL 7) (.cons (.for_ (.nm 8) (.rng1 (.ixv 0 (.int 1))) bFIn) (.cons (.app 5 (.blt .tuple (.cons (.var 7) .nil))) .nil)))) (fun i : Nat => PyData.int (i : Int)) (fun n ρ => ∃ b2 b6 b7 b8, ρ = [.val (szD r c), .val (stD s), b2, .un, .val (.list (eqsD s)), .own false ((List.range n).map fun i => rowD c (fitE s i)), b6, b7, b8]) (List.range r) [.val (szD r c), .val (stD s), .un, .un, .val (.list (eqsD s)), .own false [], .un, .un, .un] ⟨_, _, _, _, rfl⟩ (fun n x ρ hx hI => by
    have hn : n < r := by
      have := (List.getElem?_eq_some_iff.mp hx).1
      simpa using this
    have hx : x = n := by
      rw [List.getElem?_range hn] at hx
      exact (Option.some.inj hx).symm
    subst hx
    obtain ⟨b2, b6, b7, b8, rfl⟩ := hI
    obtain ⟨c2, c8, e2⟩ := frow_ok (G := G) c1 r c hc s x b2 .un (.own false ((List.range x).map fun i => rowD c (fitE s i))) b8
    refine ⟨[.val (szD r c), .val (stD s), b2, .un, .val (.list (eqsD s)), .own false ((List.range x).map fun i => rowD c (fitE s i)), .val (.int x), b7, b8], [.val (szD r c), .val (stD s), c2, .un, .val (.list (eqsD s)), .own false ((List.range (x + 1)).map fun i => rowD c (fitE s i)), .val (.int x), .val (.list (entD x c (fitE s))), c8], rfl, ?_, _, _, _, _, rfl⟩
    rw [ss_nx (ρ1 := [.val (szD r c), .val (stD s), b2, .un, .val (.list (eqsD s)), .own false ((List.range x).map fun i => rowD c (fitE s i)), .val (.int x), .own false [], b8]) rfl, ss_nx e2]
    have hl : ((List.range x).map fun i => rowD c (fitE s i)).length < 1000000 := by simp; omega
    have hx1 : ((List.range (x + 1)).map fun i => rowD c (fitE s i)) = ((List.range x).map fun i => rowD c (fitE s i)) ++ [.tuple (entD x c (fitE s))] := by
      rw [List.range_succ, List.map_append]; rfl
    rw [hx1]
    rw [List.length_map, List.length_range] at hl
    simp [denSs, denS, den, dens, denAnd, denOr, denO, denA, denI, denT, denF, setR, ifR, bin2, un1, notD, chain2, andB, orB, iteB, tupR, lstR, consR, consG, datR, sloR, argSl, bltR, isiR, rdv, ixvR, held, isUn, subS, lenvR, lenS, callR, SR.seq, Res.to, B2.den, add_i, sub_i, C2.den, icmp, negD, itR, itsD, appR, isOwnS, hl])
  rw [e1, SR.seq_nx, List.length_range]
  rw [ss_rt (s_ret rfl)]
  exact Rt.of rfl (by simp)
end
def SpFitting (Δ : Nat → Fn) : Prop := ∀ (r c : Nat) (s : List Lk) ρ, r ≤ 4 → c ≤ 4 → s.length ≤ 1000 → callD (Δ i_fitting) false [.dat (szD r c), .dat (stD s)] ρ = .ok (.tuple [tbD r c (fitE s), .int 0]) ρ
theorem sp_fitting {Δ Δ1 : Nat → Fn} {G : List (Str × D)} (h : Δ i_fitting = F_fitting.fn Δ1 G) (c1 : SpSureL Δ1) : SpFitting Δ := fun r c s ρ hr hc hs =>
  call_rt (ds := [szD r c, stD s]) h rfl (fit_run c1 r c hr hc s hs) ρ
/-! ### the math of it -/
theorem clB_self (a : Lk) : clB a a = false := by
  unfold clB
  cases h : a.2 <;> simp [h]
theorem fcs_iff {s : List Lk} : fcs s = none ↔ ∀ a ∈ s, ∀ b ∈ s, clB a b = false := by
  rw [fcs_none]
  constructor
  · intro h a ha b hb
    obtain ⟨i, hi, rfl⟩ := List.getElem_of_mem ha
    obtain ⟨j, hj, rfl⟩ := List.getElem_of_mem hb
    have ei : lkAt s i = s[i] := by simp [lkAt, List.getD, List.getElem?_eq_getElem hi]
    have ej : lkAt s j = s[j] := by simp [lkAt, List.getD, List.getElem?_eq_getElem hj]
    rcases Nat.lt_trichotomy i j with hij | hij | hij
    · have := h i j hij hj
      unfold cl2 at this
      rw [ei, ej] at this
      exact (Bool.or_eq_false_iff.mp this).1
    · subst hij; exact clB_self _
    · have := h j i hij hi
      unfold cl2 at this
      rw [ei, ej] at this
      exact (Bool.or_eq_false_iff.mp this).2
  · intro h i j hij hj
    unfold cl2
    rw [h _ (lkAt_mem (by omega)) _ (lkAt_mem hj), h _ (lkAt_mem hj) _ (lkAt_mem (by omega))]
    rfl
theorem up_iff {p q : Pl} : upTo p q = true ↔ p.1 ≤ q.1 ∧ p.2 ≤ q.2 := by simp [upTo]
theorem up_refl (p : Pl) : upTo p p = true := up_iff.mpr ⟨Nat.le_refl _, Nat.le_refl _⟩
theorem up_trans {p q t : Pl} (h : upTo p q = true) (h2 : upTo q t = true) : upTo p t = true := by
  rw [up_iff] at *; omega
theorem up_anti {p q : Pl} (h : upTo p q = true) (h2 : upTo q p = true) : p = q := by
  rw [up_iff] at *; exact Prod.ext (by omega) (by omega)
theorem cl_le {p : Pl} {b : Lk} : clB (p, .le) b = true ↔ b.2 ≠ .le ∧ upTo b.1 p = true := by simp [clB]
theorem cl_gr {p : Pl} {b : Lk} : clB (p, .gr) b = true ↔ b.2 ≠ .gr ∧ upTo p b.1 = true := by simp [clB]
theorem cl_eq {p : Pl} {b : Lk} : clB (p, .eq) b = true ↔ b.2 = .eq ∧ p ≠ b.1 ∧ upTo p b.1 = true := by simp [clB]
theorem isEq_iff {s : List Lk} {p : Pl} : isEqP s p = true ↔ (p, An.eq) ∈ s := by
  simp only [isEqP, List.any_eq_true, Bool.and_eq_true, decide_eq_true_eq]
  constructor
  · rintro ⟨⟨q, y⟩, h1, h2, h3⟩
    dsimp at h2 h3
    subst h2 h3
    exact h1
  · exact fun h => ⟨_, h, rfl, rfl⟩
theorem sureL_iff {s : List Lk} {p : Pl} : sureL s p = true ↔ ∃ q, upTo p q = true ∧ ((q, An.le) ∈ s ∨ ((q, An.eq) ∈ s ∧ p ≠ q)) := by
  simp only [sureL, List.any_eq_true, slB, Bool.or_eq_true, Bool.and_eq_true, decide_eq_true_eq, Bool.not_eq_true', decide_eq_false_iff_not]
  constructor
  · rintro ⟨⟨q, y⟩, h1, ⟨h2, h3⟩ | ⟨h2, h3, h4⟩⟩
    · dsimp at h2 h3; subst h2; exact ⟨q, h3, .inl h1⟩
    · dsimp at h2 h3 h4; subst h2; exact ⟨q, h4, .inr ⟨h1, h3⟩⟩
  · rintro ⟨q, h1, h2 | ⟨h2, h3⟩⟩
    · exact ⟨_, h2, .inl ⟨rfl, h1⟩⟩
    · exact ⟨_, h2, .inr ⟨rfl, h3, h1⟩⟩
theorem sureG_iff {s : List Lk} {p : Pl} : sureG s p = true ↔ ∃ q, upTo q p = true ∧ ((q, An.gr) ∈ s ∨ ((q, An.eq) ∈ s ∧ p ≠ q)) := by
  simp only [sureG, List.any_eq_true, sgB, Bool.or_eq_true, Bool.and_eq_true, decide_eq_true_eq, Bool.not_eq_true', decide_eq_false_iff_not]
  constructor
  · rintro ⟨⟨q, y⟩, h1, ⟨h2, h3⟩ | ⟨h2, h3, h4⟩⟩
    · dsimp at h2 h3; subst h2; exact ⟨q, h3, .inl h1⟩
    · dsimp at h2 h3 h4; subst h2; exact ⟨q, h4, .inr ⟨h1, h3⟩⟩
  · rintro ⟨q, h1, h2 | ⟨h2, h3⟩⟩
    · exact ⟨_, h2, .inl ⟨rfl, h1⟩⟩
    · exact ⟨_, h2, .inr ⟨rfl, h3, h1⟩⟩
section
variable {s : List Lk} (hf : fcs s = none)
include hf
theorem nocl {a b : Lk} (ha : a ∈ s) (hb : b ∈ s) : ¬ clB a b = true := by
  rw [fcs_iff.mp hf a ha b hb]; simp
theorem le_no_eq {p : Pl} (h : (p, An.eq) ∈ s) : sureL s p = false := by
  cases hl : sureL s p with
  | false => rfl
  | true =>
    obtain ⟨q, h1, h2 | ⟨h2, h3⟩⟩ := sureL_iff.mp hl
    · exact absurd (cl_le.mpr ⟨by simp, h1⟩) (nocl hf h2 h)
    · exact absurd (cl_eq.mpr ⟨rfl, h3, h1⟩) (nocl hf h h2)
theorem gr_no_eq {p : Pl} (h : (p, An.gr) ∈ s) : sureL s p = false ∧ isEqP s p = false := by
  constructor
  · cases hl : sureL s p with
    | false => rfl
    | true =>
      obtain ⟨q, h1, h2 | ⟨h2, h3⟩⟩ := sureL_iff.mp hl
      · exact absurd (cl_le.mpr ⟨by simp, h1⟩) (nocl hf h2 h)
      · exact absurd (cl_gr.mpr ⟨by simp, h1⟩) (nocl hf h h2)
  · cases hl : isEqP s p with
    | false => rfl
    | true => exact absurd (cl_gr.mpr ⟨by simp, up_refl p⟩) (nocl hf h (isEq_iff.mp hl))
theorem sureL_down {p q : Pl} (hpq : upTo p q = true) (hne : p ≠ q) (h : sureL s q = true) : sureL s p = true := by
  obtain ⟨t, h1, h2 | ⟨h2, h3⟩⟩ := sureL_iff.mp h
  · exact sureL_iff.mpr ⟨t, up_trans hpq h1, .inl h2⟩
  · refine sureL_iff.mpr ⟨t, up_trans hpq h1, .inr ⟨h2, fun z => ?_⟩⟩
    subst z
    exact hne (up_anti hpq h1)
theorem fit_lt {p q : Pl} (hpq : upTo p q = true) (hne : p ≠ q) (hs : p.1 + p.2 < q.1 + q.2) (hq : q.1 + q.2 < 90) : fitE s p.1 p.2 < fitE s q.1 q.2 := by
  unfold fitE
  show (if isEqP s p then _ else _) < (if isEqP s q then _ else _)
  cases hp1 : isEqP s p with
  | true =>
    have mp := isEq_iff.mp hp1
    cases hq1 : isEqP s q with
    | true => exact absurd (cl_eq.mpr ⟨rfl, hne, hpq⟩) (nocl hf mp (isEq_iff.mp hq1))
    | false =>
      have : sureL s (q.1, q.2) = false := by
        cases hl : sureL s (q.1, q.2) with
        | false => rfl
        | true =>
          have := sureL_down hf hpq hne hl
          rw [le_no_eq hf mp] at this
          cases this
      simp [this]; omega
  | false =>
    cases hq1 : isEqP s q with
    | true =>
      have : sureL s (p.1, p.2) = true := sureL_iff.mpr ⟨q, hpq, .inr ⟨isEq_iff.mp hq1, hne⟩⟩
      simp [this]; omega
    | false =>
      cases hl : sureL s (q.1, q.2) with
      | true =>
        have : sureL s (p.1, p.2) = true := sureL_down hf hpq hne hl
        simp [this]; omega
      | false =>
        cases hl2 : sureL s (p.1, p.2) <;> simp <;> omega
theorem fit_rising {r c : Nat} (hr : r ≤ 4) (hc : c ≤ 4) : Rising r c (fitE s) :=
  ⟨fun i j hi hj => fit_lt hf (p := (i, j)) (q := (i, j + 1)) (up_iff.mpr ⟨Nat.le_refl _, Nat.le_succ _⟩) (fun z => by have := congrArg Prod.snd z; simp at this) (by dsimp; omega) (by dsimp; omega),
   fun i j hi hj => fit_lt hf (p := (i, j)) (q := (i + 1, j)) (up_iff.mpr ⟨Nat.le_succ _, Nat.le_refl _⟩) (fun z => by have := congrArg Prod.fst z; simp at this) (by dsimp; omega) (by dsimp; omega)⟩
theorem fit_right {l : Lk} (hl : l ∈ s) (hb : l.1.1 + l.1.2 < 90) : l.2 = ansOf (fitE s) 0 l.1 := by
  obtain ⟨p, y⟩ := l
  cases y with
  | le =>
    have h1 : sureL s p = true := sureL_iff.mpr ⟨p, up_refl p, .inl hl⟩
    have h2 : isEqP s p = false := by
      cases hq : isEqP s p with
      | false => rfl
      | true => exact absurd (cl_le.mpr ⟨by simp, up_refl p⟩) (nocl hf hl (isEq_iff.mp hq))
    symm
    rw [ans_le]
    unfold fitE
    show (if isEqP s p then _ else _) < _
    rw [h2]
    simp [show sureL s (p.1, p.2) = true from h1]
    dsimp at hb
    omega
  | gr =>
    obtain ⟨h1, h2⟩ := gr_no_eq hf hl
    symm
    rw [ans_gr]
    unfold fitE
    show _ < (if isEqP s p then _ else _)
    rw [h2]
    simp [show sureL s (p.1, p.2) = false from h1]
    omega
  | eq =>
    symm
    rw [ans_eq]
    unfold fitE
    show (if isEqP s p then _ else _) = _
    rw [isEq_iff.mpr hl]
    rfl
end
theorem fit_bounded (s : List Lk) {r c : Nat} (hr : r ≤ 4) (hc : c ≤ 4) : Bounded r c (fitE s) := fun i j hi hj => by
  unfold fitE
  split
  · omega
  · split <;> omega
end Dm
namespace Dm
open PySem PySem.Spec PyProof.Rows L2 LamX
/-! ### standing, witnesses judged -/
theorem isn_pl (q : Pl) : isnD (plD q) .none = some (.bool false) := rfl
structure SpStanding (Δ : Nat → Fn) : Prop where
  ok : ∀ (r c : Nat) s (p : Pl) ρ, isSz (szD r c) = true → isSt r c (stD s) = true → s.length ≤ 900 → r ≤ 4 → c ≤ 4 → fcs s = none → inSz r c p → callD (Δ i_standing) false [.dat (szD r c), .dat (stD s), .dat (plD p)] ρ = .ok (if okMore s p then .tuple [tbD r c (fitE (s ++ [(p, .eq)])), .int 0] else .none) ρ
  no : ∀ (r c : Nat) s d ρ, isSz (szD r c) = true → isSt r c (stD s) = true → s.length ≤ 900 → fcs s = none → isPl r c d = false → callD (Δ i_standing) false [.dat (szD r c), .dat (stD s), .dat d] ρ = .exc .place ρ
theorem sp_standing {Δ Δ1 : Nat → Fn} {G : List (Str × D)} (h : Δ i_standing = F_standing.fn Δ1 G) (c1 : SpNeedStory Δ1) (c2 : SpNeedPlace Δ1) (c3 : SpFirst Δ1) (c4 : SpFitting Δ1) : SpStanding Δ := by
  refine ⟨fun r c s p ρ hs hd hl hr hc hf hp => call_rt (ds := [szD r c, stD s, plD p]) h rfl ?_ ρ, fun r c s d ρ hs hd hl hf hp => call_xc (ds := [szD r c, stD s, d]) h rfl ?_ ρ⟩
  · have e1 := fun ρ => c1.ok r c s ρ hs hd (by omega) hf
    have e2 := fun ρ => c2.ok r c (plD p) ρ (isPl_pl hp)
    have e3 := fun ρ => c3 (s ++ [(p, .eq)]) ρ (by simp; omega)
    have e4 := fun ρ => c4 r c (s ++ [(p, .eq)]) ρ hr hc (by simp; omega)
    have e5 := st_app s (p, .eq) hl
    simp only [lkD, An.s] at e5
    show Rt 3 _ (denSs Δ1 G B_standing [.val (szD r c), .val (stD s), .val (plD p), .un])
    unfold B_standing okMore
    cases ho : fcs (s ++ [(p, .eq)]) with
    | none =>
      rw [ho] at e3
      simp [denSs, denS, den, dens, denAnd, denOr, denO, denA, denI, denT, denF, setR, ifR, bin2, un1, notD, chain2, andB, orB, iteB, tupR, lstR, consR, consG, datR, sloR, argSl, bltR, isiR, rdv, ixvR, held, isUn, subS, lenvR, lenS, callR, SR.seq, Res.to, B2.den, add_i, sub_i, C2.den, icmp, negD, itR, itsD, e1, e2, e5, e3, e4, fcD, isnD, isNone]
    | some q =>
      rw [ho] at e3
      simp [denSs, denS, den, dens, denAnd, denOr, denO, denA, denI, denT, denF, setR, ifR, bin2, un1, notD, chain2, andB, orB, iteB, tupR, lstR, consR, consG, datR, sloR, argSl, bltR, isiR, rdv, ixvR, held, isUn, subS, lenvR, lenS, callR, SR.seq, Res.to, B2.den, add_i, sub_i, C2.den, icmp, negD, itR, itsD, e1, e2, e5, e3, fcD, isn_pl]
  · have e1 := fun ρ => c1.ok r c s ρ hs hd (by omega) hf
    have e2 := fun ρ => c2.no r c d ρ hp
    show Xc 3 .place (denSs Δ1 G B_standing [.val (szD r c), .val (stD s), .val d, .un])
    unfold B_standing
    simp [denSs, denS, den, dens, denAnd, denOr, denO, denA, denI, denT, denF, setR, ifR, bin2, un1, notD, chain2, andB, orB, iteB, tupR, lstR, consR, consG, datR, sloR, argSl, bltR, isiR, rdv, ixvR, held, isUn, subS, lenvR, lenS, callR, SR.seq, Res.to, B2.den, add_i, sub_i, C2.den, icmp, negD, itR, itsD, e1, e2]
structure SpWitness (Δ : Nat → Fn) : Prop where
  ok : ∀ (r c : Nat) s ρ, isSz (szD r c) = true → isSt r c (stD s) = true → s.length ≤ 900 → r ≤ 4 → c ≤ 4 → callD (Δ i_witness) false [.dat (szD r c), .dat (stD s)] ρ = .ok (if (fcs s).isNone then .tuple [tbD r c (fitE s), .int 0] else .none) ρ
theorem sp_witness {Δ Δ1 : Nat → Fn} {G : List (Str × D)} (h : Δ i_witness = F_witness.fn Δ1 G) (c1 : SpNeedLooks Δ1) (c3 : SpFirst Δ1) (c4 : SpFitting Δ1) : SpWitness Δ := by
  refine ⟨fun r c s ρ hs hd hl hr hc => call_rt (ds := [szD r c, stD s]) h rfl ?_ ρ⟩
  have e1 := fun ρ => c1.ok r c (stD s) ρ hs hd
  have e3 := fun ρ => c3 s ρ (by omega)
  have e4 := fun ρ => c4 r c s ρ hr hc (by omega)
  show Rt 2 _ (denSs Δ1 G B_witness [.val (szD r c), .val (stD s)])
  unfold B_witness
  cases ho : fcs s with
  | none =>
    rw [ho] at e3
    simp [denSs, denS, den, dens, denAnd, denOr, denO, denA, denI, denT, denF, setR, ifR, bin2, un1, notD, chain2, andB, orB, iteB, tupR, lstR, consR, consG, datR, sloR, argSl, bltR, isiR, rdv, ixvR, held, isUn, subS, lenvR, lenS, callR, SR.seq, Res.to, B2.den, add_i, sub_i, C2.den, icmp, negD, itR, itsD, e1, e3, e4, fcD, isnD, isNone]
  | some q =>
    rw [ho] at e3
    simp [denSs, denS, den, dens, denAnd, denOr, denO, denA, denI, denT, denF, setR, ifR, bin2, un1, notD, chain2, andB, orB, iteB, tupR, lstR, consR, consG, datR, sloR, argSl, bltR, isiR, rdv, ixvR, held, isUn, subS, lenvR, lenS, callR, SR.seq, Res.to, B2.den, add_i, sub_i, C2.den, icmp, negD, itR, itsD, e1, e3, fcD, isn_pl]
def rightB (e : Nat → Nat → Int) (x : Int) (s : List Lk) : Bool := s.all fun l => decide (l.2 = ansOf e x l.1)
def bRight : ISs := .cons (.set 5 (.call 20 false (.val (.var 1) (.val (.var 3) .nil)))) (.cons (.ifs (.cmp .ne (.var 4) (.ite (.cmp .lt (.var 5) (.var 2)) (.str "less") (.ite (.cmp .gt (.var 5) (.var 2)) (.str "greater") (.str "equal")))) (.cons (.ret (.bl false)) .nil) .nil) .nil)
theorem ne_an (a b : An) : neD (.str a.s) (.str b.s) = some (.bool (!decide (a = b))) := by cases a <;> cases b <;> kernel_rfl
theorem right_in {Δ1 : Nat → Fn} {G : List (Str × D)} (c1 : SpAt Δ1) {r c : Nat} {e : Nat → Nat → Int} {x : Int} (A d : Sl) (l : Lk) (hl : inSz r c l.1) : denSs Δ1 G bRight [A, .val (tbD r c e), .val (.int x), .val (plD l.1), .val (.str l.2.s), d] = if (!decide (l.2 = ansOf e x l.1)) = true then .rt (.bool false) [A, .val (tbD r c e), .val (.int x), .val (plD l.1), .val (.str l.2.s), .val (.int (e l.1.1 l.1.2))] else .nx [A, .val (tbD r c e), .val (.int x), .val (plD l.1), .val (.str l.2.s), .val (.int (e l.1.1 l.1.2))] := by
  have e1 := c1 r c e l.1 [A, .val (tbD r c e), .val (.int x), .val (plD l.1), .val (.str l.2.s), d] hl
  unfold bRight
  rw [ss_nx (s_set (den_call (ars := [.dat (tbD r c e), .dat (plD l.1)]) rfl e1))]
  show denSs Δ1 G _ [A, .val (tbD r c e), .val (.int x), .val (plD l.1), .val (.str l.2.s), .val (.int (e l.1.1 l.1.2))] = _
  have hb : den Δ1 G (.cmp .ne (.var 4) (.ite (.cmp .lt (.var 5) (.var 2)) (.str "less") (.ite (.cmp .gt (.var 5) (.var 2)) (.str "greater") (.str "equal")))) [A, .val (tbD r c e), .val (.int x), .val (plD l.1), .val (.str l.2.s), .val (.int (e l.1.1 l.1.2))] = .ok (.bool (!decide (l.2 = ansOf e x l.1))) [A, .val (tbD r c e), .val (.int x), .val (plD l.1), .val (.str l.2.s), .val (.int (e l.1.1 l.1.2))] := by
    refine den_ne (x := .str l.2.s) (y := .str (ansOf e x l.1).s) rfl ?_ (ne_an _ _)
    unfold ansOf
    by_cases h1 : e l.1.1 l.1.2 < x
    · simp [denSs, denS, den, dens, denAnd, denOr, denO, denA, denI, denT, denF, setR, ifR, bin2, un1, notD, chain2, andB, orB, iteB, tupR, lstR, consR, consG, datR, sloR, argSl, bltR, isiR, rdv, ixvR, held, isUn, subS, lenvR, lenS, callR, SR.seq, Res.to, B2.den, add_i, sub_i, C2.den, icmp, negD, itR, itsD, h1, An.s]
    · by_cases h2 : x < e l.1.1 l.1.2
      · simp [denSs, denS, den, dens, denAnd, denOr, denO, denA, denI, denT, denF, setR, ifR, bin2, un1, notD, chain2, andB, orB, iteB, tupR, lstR, consR, consG, datR, sloR, argSl, bltR, isiR, rdv, ixvR, held, isUn, subS, lenvR, lenS, callR, SR.seq, Res.to, B2.den, add_i, sub_i, C2.den, icmp, negD, itR, itsD, h1, h2, An.s]
      · simp [denSs, denS, den, dens, denAnd, denOr, denO, denA, denI, denT, denF, setR, ifR, bin2, un1, notD, chain2, andB, orB, iteB, tupR, lstR, consR, consG, datR, sloR, argSl, bltR, isiR, rdv, ixvR, held, isUn, subS, lenvR, lenS, callR, SR.seq, Res.to, B2.den, add_i, sub_i, C2.den, icmp, negD, itR, itsD, h1, h2, An.s]
  cases hq : decide (l.2 = ansOf e x l.1) with
  | true =>
    rw [hq] at hb
    rw [if_neg (by simp), ss_nx (s_if_f hb)]
    rfl
  | false =>
    rw [hq] at hb
    rw [if_pos (show (!false) = true from rfl), ss_cons, s_if_t hb]
    rfl
def SpRight (Δ : Nat → Fn) : Prop := ∀ (r c : Nat) (e : Nat → Nat → Int) (x : Int) (s : List Lk) ρ, (∀ l ∈ s, inSz r c l.1) → callD (Δ i_are_right) false [.dat (stD s), .dat (tbD r c e), .dat (.int x)] ρ = .ok (.bool (rightB e x s)) ρ
theorem sp_right {Δ Δ1 : Nat → Fn} {G : List (Str × D)} (h : Δ i_are_right = F_are_right.fn Δ1 G) (c1 : SpAt Δ1) : SpRight Δ := fun r c e x s ρ hs => by
  refine call_rt (ds := [stD s, tbD r c e, .int x]) h rfl ?_ ρ
  show Rt 3 _ (denSs Δ1 G (.cons (.for_ (.tp (.cons (.nm 3) (.cons (.nm 4) .nil))) (.dat (.var 0)) bRight) (.cons (.ret (.bl true)) .nil)) [.val (stD s), .val (tbD r c e), .val (.int x), .un, .un, .un])
  rw [ss_cons, s_forD (d := stD s) (ds := s.map lkD) (ρ1 := [.val (stD s), .val (tbD r c e), .val (.int x), .un, .un, .un]) rfl rfl]
  obtain ⟨ρ', ⟨a, b, d, rfl⟩, ev⟩ := for_find (p := .tp (.cons (.nm 3) (.cons (.nm 4) .nil))) (body := denSs Δ1 G bRight) lkD (fun l => !decide (l.2 = ansOf e x l.1)) (fun _ => .bool false) (fun ρ => ∃ a b d, ρ = [.val (stD s), .val (tbD r c e), .val (.int x), a, b, d]) s [.val (stD s), .val (tbD r c e), .val (.int x), .un, .un, .un] ⟨_, _, _, rfl⟩ (fun l hl ρ hρ => by
    obtain ⟨a, b, d, rfl⟩ := hρ
    refine ⟨[.val (stD s), .val (tbD r c e), .val (.int x), .val (plD l.1), .val (.str l.2.s), d], rfl, ?_⟩
    rw [right_in c1 _ d l (hs l hl)]
    split
    · exact ⟨_, rfl, _, _, _, rfl⟩
    · exact ⟨_, rfl, _, _, _, rfl⟩)
  rw [ev]
  have : rightB e x s = !(s.find? fun l => !decide (l.2 = ansOf e x l.1)).isSome := by
    unfold rightB
    rw [← find_any, List.not_any_eq_all_not]
    simp
  rw [this]
  cases hf : s.find? (fun l => !decide (l.2 = ansOf e x l.1)) with
  | none => exact Rt.of rfl (by simp)
  | some p => exact Rt.of rfl (by simp)
def SpLFits (Δ : Nat → Fn) : Prop := ∀ (r c : Nat) (e : Nat → Nat → Int) (x : Int) (s : List Lk) ρ, s.length ≤ 1000 → (∀ l ∈ s, inSz r c l.1) → callD (Δ i__law_fits) false [.dat (stD s), .dat (tbD r c e), .dat (.int x)] ρ = .ok (.bool (rightB e x s)) ρ
theorem sp_lfits {Δ Δ1 : Nat → Fn} {G : List (Str × D)} (h : Δ i__law_fits = F__law_fits.fn Δ1 G) (c1 : SpLAnswer Δ1) : SpLFits Δ := fun r c e x s ρ hl hs => by
  refine call_rt (ds := [stD s, tbD r c e, .int x]) h rfl ?_ ρ
  show Rt 3 _ (denSs Δ1 G B__law_fits [.val (stD s), .val (tbD r c e), .val (.int x), .un, .un])
  unfold B__law_fits
  rw [ss_rt (s_ret (d := .bool (rightB e x s)) (ρ1 := [.val (stD s), .val (tbD r c e), .val (.int x), .un, .un]) (den_blt (dens_cons (x := .list (s.map fun l => .bool (decide (l.2 = ansOf e x l.1)))) (ρ1 := [.val (stD s), .val (tbD r c e), .val (.int x), .un, .un]) ?h1 dens_nil) ?h2))]
  · exact Rt.of rfl (by simp)
  case h1 =>
    refine comp_tp s (fun l => plD l.1) (fun l => .str l.2.s) _ (by decide) rfl rfl rfl (by omega) (fun l hl => ?_)
    have e1 := c1 r c e l.1 x [.val (stD s), .val (tbD r c e), .val (.int x), .val (plD l.1), .val (.str l.2.s)] (hs l hl)
    refine (den_eq (den_call (ars := [.dat (tbD r c e), .dat (plD l.1), .dat (.int x)]) rfl e1) rfl (eq_an _ _)).trans ?_
    rw [show decide (ansOf e x l.1 = l.2) = decide (l.2 = ansOf e x l.1) by simp [eq_comm]]
    rfl
  case h2 =>
    show (blsOf _).map _ = _
    rw [blsOf_mapF]
    show some (PyData.bool ((s.map _).all id)) = _
    rw [all_id_map]; rfl
theorem eqv_sz (r c r' c' : Nat) : eqD (szD r c) (szD r' c') = some (.bool (decide (r = r') && decide (c = c'))) := by
  have := eq_pl (r, c) (r', c')
  unfold plD at this
  unfold szD
  rw [this]
  congr 2
  by_cases h1 : r = r' <;> by_cases h2 : c = c' <;> simp [h1, h2]
def badW (d : D) : Bool := match d with
  | .tuple ds => !decide (ds.length = 2) || (!isTab (ds.getD 0 .none) || !isWh (ds.getD 1 .none) (-999) 999)
  | _ => true
structure SpIsWit (Δ : Nat → Fn) : Prop where
  ok : ∀ (r c r' c' : Nat) s e (x : Int) ρ, isSz (szD r c) = true → isSt r c (stD s) = true → (∀ l ∈ s, inSz r c l.1) → 1 ≤ r' → isTab (tbD r' c' e) = true → isWh (.int x) (-999) 999 = true → callD (Δ i_is_witness) false [.dat (szD r c), .dat (stD s), .dat (.tuple [tbD r' c' e, .int x])] ρ = .ok (.bool ((decide (r' = r) && decide (c' = c)) && rightB e x s)) ρ
  no : ∀ (r c : Nat) s d ρ, isSz (szD r c) = true → isSt r c (stD s) = true → badW d = true → callD (Δ i_is_witness) false [.dat (szD r c), .dat (stD s), .dat d] ρ = .ok (.bool false) ρ
  st : ∀ (r c : Nat) y d ρ, isSz (szD r c) = true → isSt r c y = false → callD (Δ i_is_witness) false [.dat (szD r c), .dat y, .dat d] ρ = .exc .story ρ
theorem sp_iswit {Δ Δ1 : Nat → Fn} {G : List (Str × D)} (h : Δ i_is_witness = F_is_witness.fn Δ1 G) (c1 : SpNeedLooks Δ1) (c2 : SpTable Δ1) (c3 : SpWhole Δ1) (c4 : SpSizeOf Δ1) (c5 : SpRight Δ1) : SpIsWit Δ := by
  refine ⟨fun r c r' c' s e x ρ hs hd hi hr ht hx => call_rt (ds := [szD r c, stD s, .tuple [tbD r' c' e, .int x]]) h rfl ?_ ρ, fun r c s d ρ hs hd hb => call_rt (ds := [szD r c, stD s, d]) h rfl ?_ ρ, fun r c y d ρ hs hd => call_xc (ds := [szD r c, y, d]) h rfl ?_ ρ⟩
  · have e1 := fun ρ => c1.ok r c (stD s) ρ hs hd
    have e2 := c2 (tbD r' c' e)
    have e3 := c3 (.int x) (-999) 999
    have e4 := fun ρ => c4 r' c' e ρ hr
    rw [ht] at e2
    rw [hx] at e3
    show Rt 3 _ (denSs Δ1 G B_is_witness [.val (szD r c), .val (stD s), .val (.tuple [tbD r' c' e, .int x])])
    unfold B_is_witness
    by_cases hq : r' = r ∧ c' = c
    · obtain ⟨rfl, rfl⟩ := hq
      have e5 := fun ρ => c5 r' c' e x s ρ hi
      simp [denSs, denS, den, dens, denAnd, denOr, denO, denA, denI, denT, denF, setR, ifR, bin2, un1, notD, chain2, andB, orB, iteB, tupR, lstR, consR, consG, datR, sloR, argSl, bltR, isiR, rdv, ixvR, held, isUn, subS, lenvR, lenS, callR, SR.seq, Res.to, B2.den, add_i, sub_i, C2.den, icmp, negD, itR, itsD, e1, isiD, ixD, atI_zero, atI_one, e2, e3, e4, eqv_sz, e5]
    · have : (decide (r' = r) && decide (c' = c)) = false := by
        simp only [Bool.and_eq_false_iff, decide_eq_false_iff_not]
        by_cases h1 : r' = r
        · exact .inr fun z => hq ⟨h1, z⟩
        · exact .inl h1
      simp [denSs, denS, den, dens, denAnd, denOr, denO, denA, denI, denT, denF, setR, ifR, bin2, un1, notD, chain2, andB, orB, iteB, tupR, lstR, consR, consG, datR, sloR, argSl, bltR, isiR, rdv, ixvR, held, isUn, subS, lenvR, lenS, callR, SR.seq, Res.to, B2.den, add_i, sub_i, C2.den, icmp, negD, itR, itsD, e1, isiD, ixD, atI_zero, atI_one, e2, e3, e4, eqv_sz, this]
  · have e1 := fun ρ => c1.ok r c (stD s) ρ hs hd
    show Rt 3 _ (denSs Δ1 G B_is_witness [.val (szD r c), .val (stD s), .val d])
    unfold B_is_witness
    cases d with
    | tuple ds =>
      by_cases hl : ds.length = 2
      · obtain ⟨a, b, rfl⟩ := len2 hl
        have e2 := c2 a
        have e3 := c3 b (-999) 999
        cases ha : isTab a with
        | false =>
          rw [ha] at e2
          simp [denSs, denS, den, dens, denAnd, denOr, denO, denA, denI, denT, denF, setR, ifR, bin2, un1, notD, chain2, andB, orB, iteB, tupR, lstR, consR, consG, datR, sloR, argSl, bltR, isiR, rdv, ixvR, held, isUn, subS, lenvR, lenS, callR, SR.seq, Res.to, B2.den, add_i, sub_i, C2.den, icmp, negD, itR, itsD, e1, isiD, ixD, atI_zero, atI_one, e2]
        | true =>
          have hw : isWh b (-999) 999 = false := by
            simp [badW, ha] at hb
            exact hb
          rw [ha] at e2
          rw [hw] at e3
          simp [denSs, denS, den, dens, denAnd, denOr, denO, denA, denI, denT, denF, setR, ifR, bin2, un1, notD, chain2, andB, orB, iteB, tupR, lstR, consR, consG, datR, sloR, argSl, bltR, isiR, rdv, ixvR, held, isUn, subS, lenvR, lenS, callR, SR.seq, Res.to, B2.den, add_i, sub_i, C2.den, icmp, negD, itR, itsD, e1, isiD, ixD, atI_zero, atI_one, e2, e3]
      · have hl' : ¬ (ds.length : Int) = 2 := by omega
        simp [denSs, denS, den, dens, denAnd, denOr, denO, denA, denI, denT, denF, setR, ifR, bin2, un1, notD, chain2, andB, orB, iteB, tupR, lstR, consR, consG, datR, sloR, argSl, bltR, isiR, rdv, ixvR, held, isUn, subS, lenvR, lenS, callR, SR.seq, Res.to, B2.den, add_i, sub_i, C2.den, icmp, negD, itR, itsD, e1, isiD, hl']
    | _ => simp [denSs, denS, den, dens, denAnd, denOr, denO, denA, denI, denT, denF, setR, ifR, bin2, un1, notD, chain2, andB, orB, iteB, tupR, lstR, consR, consG, datR, sloR, argSl, bltR, isiR, rdv, ixvR, held, isUn, subS, lenvR, lenS, callR, SR.seq, Res.to, B2.den, add_i, sub_i, C2.den, icmp, negD, itR, itsD, e1, isiD]
  · have e1 := fun ρ => c1.no r c y ρ hs hd
    show Xc 3 .story (denSs Δ1 G B_is_witness [.val (szD r c), .val y, .val d])
    unfold B_is_witness
    simp [denSs, denS, den, dens, denAnd, denOr, denO, denA, denI, denT, denF, setR, ifR, bin2, un1, notD, chain2, andB, orB, iteB, tupR, lstR, consR, consG, datR, sloR, argSl, bltR, isiR, rdv, ixvR, held, isUn, subS, lenvR, lenS, callR, SR.seq, Res.to, B2.den, add_i, sub_i, C2.den, icmp, negD, itR, itsD, e1]
end Dm
namespace Dm
open PySem PySem.Spec PyProof.Rows L2 LamX
/-! ### places as data -/
theorem eqvAll_pls : ∀ a b : List Pl, PyData.eqvAll (plsD a) (plsD b) = decide (a = b)
  | [], [] => by simp [plsD, PyData.eqvAll]
  | [], _ :: _ => by simp [plsD, PyData.eqvAll]
  | _ :: _, [] => by simp [plsD, PyData.eqvAll]
  | p :: a, q :: b => by
    have ih := eqvAll_pls a b
    simp only [plsD, List.map_cons] at ih ⊢
    rw [PyData.eqvAll, ih, eqv_pl]
    by_cases h1 : p = q <;> by_cases h2 : a = b <;> simp [h1, h2]
theorem dep_pls : ∀ a : List Pl, PyData.depthAll (plsD a) ≤ 4
  | [] => by simp [plsD, PyData.depthAll]
  | p :: a => by
    have ih := dep_pls a
    simp only [plsD, List.map_cons] at ih ⊢
    rw [PyData.depthAll]
    have := dep_pl p
    omega
theorem eqv_plsT (a b : List Pl) : PyData.eqv (.tuple (plsD a)) (.tuple (plsD b)) = decide (a = b) := by
  simp only [PyData.eqv, eqvAll_pls]
theorem dep_plsT (a : List Pl) : (PyData.tuple (plsD a)).depth ≤ 5 := by
  have := dep_pls a
  simp only [PyData.depth]
  omega
theorem ne_plsT (a b : List Pl) : neD (.tuple (plsD a)) (.tuple (plsD b)) = some (.bool (!decide (a = b))) := by
  unfold neD
  rw [if_pos (Nat.le_trans (Nat.min_le_left _ _) (Nat.le_trans (dep_plsT a) (by decide))), eqv_plsT]
theorem eq_plsT (a b : List Pl) : eqD (.tuple (plsD a)) (.tuple (plsD b)) = some (.bool (decide (a = b))) := by
  unfold eqD
  rw [if_pos (Nat.le_trans (Nat.min_le_left _ _) (Nat.le_trans (dep_plsT a) (by decide))), eqv_plsT]
theorem any_pls (p : Pl) (a : List Pl) : ((plsD a).any fun z => PyData.eqv z (plD p)) = decide (p ∈ a) := by
  unfold plsD
  rw [List.any_map]
  induction a with
  | nil => simp
  | cons q a ih =>
    rw [List.any_cons, ih]
    simp only [Function.comp, eqv_pl, List.mem_cons]
    by_cases h1 : q = p
    · simp [h1]
    · have h1' : ¬ p = q := fun z => h1 z.symm
      simp [h1, h1']
theorem in_plsL (p : Pl) (a : List Pl) : inD (plD p) (.list (plsD a)) = some (.bool (decide (p ∈ a))) := by
  show (if (plD p).depth ≤ 60 then some (PyData.bool ((plsD a).any fun z => PyData.eqv z (plD p))) else none) = _
  rw [if_pos (Nat.le_trans (dep_pl p) (by decide)), any_pls]
theorem in_plsT (p : Pl) (a : List Pl) : inD (plD p) (.tuple (plsD a)) = some (.bool (decide (p ∈ a))) := by
  show (if (plD p).depth ≤ 60 then some (PyData.bool ((plsD a).any fun z => PyData.eqv z (plD p))) else none) = _
  rw [if_pos (Nat.le_trans (dep_pl p) (by decide)), any_pls]
theorem nin_plsL (p : Pl) (a : List Pl) : ninD (plD p) (.list (plsD a)) = some (.bool (!decide (p ∈ a))) := by
  unfold ninD
  rw [in_plsL]; rfl
section
variable {Δ : Nat → Fn} {G : List (Str × D)} {a : IE} {ρ ρ1 : Rho} {p : Pl} {ps : List Pl} {i : Nat}
theorem den_inL (h : den Δ G a ρ = .ok (plD p) ρ1) (h2 : ρ1[i]? = some (.val (.list (plsD ps)))) : den Δ G (.inS false i a) ρ = .ok (.bool (decide (p ∈ ps))) ρ1 := by
  show inSR false i (den Δ G a) ρ = _
  unfold inSR rdv
  rw [h, Res.bind_ok, h2]
  simp [in_plsL]
theorem den_inT (h : den Δ G a ρ = .ok (plD p) ρ1) (h2 : ρ1[i]? = some (.val (.tuple (plsD ps)))) : den Δ G (.inS false i a) ρ = .ok (.bool (decide (p ∈ ps))) ρ1 := by
  show inSR false i (den Δ G a) ρ = _
  unfold inSR rdv
  rw [h, Res.bind_ok, h2]
  simp [in_plsT]
theorem den_ninL (h : den Δ G a ρ = .ok (plD p) ρ1) (h2 : ρ1[i]? = some (.val (.list (plsD ps)))) : den Δ G (.inS true i a) ρ = .ok (.bool (!decide (p ∈ ps))) ρ1 := by
  show inSR true i (den Δ G a) ρ = _
  unfold inSR rdv
  rw [h, Res.bind_ok, h2]
  simp [nin_plsL]
end
def placesX (r c : Nat) (e : Nat → Nat → Int) (x : Int) : List Pl := (allP r c).filter fun p => decide (e p.1 p.2 = x)
structure SpPlacesOf (Δ : Nat → Fn) : Prop where
  ok : ∀ (r c : Nat) e (x : Int) ρ, 1 ≤ r → r ≤ 4 → c ≤ 4 → isTab (tbD r c e) = true → isWh (.int x) (-999) 999 = true → callD (Δ i_places_of) false [.dat (tbD r c e), .dat (.int x)] ρ = .ok (.tuple (plsD (placesX r c e x))) ρ
  no : ∀ d y ρ, isTab d = true → isWh y (-999) 999 = false → callD (Δ i_places_of) false [.dat d, .dat y] ρ = .exc .number ρ
theorem sp_placesof {Δ Δ1 : Nat → Fn} {G : List (Str × D)} (h : Δ i_places_of = F_places_of.fn Δ1 G) (c1 : SpNeedTable Δ1) (c2 : SpNeedNumber Δ1) (c3 : SpSizeOf Δ1) (c4 : SpPlaces Δ1) (c5 : SpAt Δ1) : SpPlacesOf Δ := by
  refine ⟨fun r c e x ρ hr hr4 hc ht hx => call_rt (ds := [tbD r c e, .int x]) h rfl ?_ ρ, fun d y ρ ht hx => call_xc (ds := [d, y]) h rfl ?_ ρ⟩
  · have e1 := fun ρ => c1.ok (tbD r c e) ρ ht
    have e2 := fun ρ => c2.ok (.int x) ρ hx
    show Rt 2 _ (denSs Δ1 G (.cons _ (.cons _ (.cons (.ret (.blt .tuple (.cons (.comp (.nm 2) [("place", 2)] (.dat (.call 19 false (.val (.call 18 false (.val (.var 0) .nil)) .nil))) (.tst (.cmp .eq (.call 20 false (.val (.var 0) (.val (.var 2) .nil))) (.var 1))) (.var 2)) .nil))) .nil))) [.val (tbD r c e), .val (.int x), .un])
    rw [ss_nx (ρ1 := [.val (tbD r c e), .val (.int x), .un]) (by simp [denSs, denS, den, dens, denAnd, denOr, denO, denA, denI, denT, denF, setR, ifR, bin2, un1, notD, chain2, andB, orB, iteB, tupR, lstR, consR, consG, datR, sloR, argSl, bltR, isiR, rdv, ixvR, held, isUn, subS, lenvR, lenS, callR, SR.seq, Res.to, B2.den, add_i, sub_i, C2.den, icmp, negD, itR, itsD, e1])]
    rw [ss_nx (ρ1 := [.val (tbD r c e), .val (.int x), .un]) (by simp [denSs, denS, den, dens, denAnd, denOr, denO, denA, denI, denT, denF, setR, ifR, bin2, un1, notD, chain2, andB, orB, iteB, tupR, lstR, consR, consG, datR, sloR, argSl, bltR, isiR, rdv, ixvR, held, isUn, subS, lenvR, lenS, callR, SR.seq, Res.to, B2.den, add_i, sub_i, C2.den, icmp, negD, itR, itsD, e2])]
    rw [ss_rt (s_ret (ρ1 := [.val (tbD r c e), .val (.int x), .un]) (den_blt (dens_cons (x := .list (plsD (placesX r c e x))) (ρ1 := [.val (tbD r c e), .val (.int x), .un]) ?h1 dens_nil) rfl))]
    · exact Rt.of rfl (by simp)
    case h1 =>
      refine comp_nmF (allP r c) plD plD (fun p => decide (e p.1 p.2 = x)) rfl ?_ (allP_len r c (by omega) (by omega)) (fun p hp => ?_) (fun p hp hq => rfl)
      · show (itR _) _ = _
        unfold itR
        have e3 := c3 r c e [.val (tbD r c e), .val (.int x), .un] hr
        have e4 := c4 r c [.val (tbD r c e), .val (.int x), .un] hr4 hc
        rw [den_call (ars := [.dat (szD r c)]) (ρ1 := [.val (tbD r c e), .val (.int x), .un]) (by simp [denSs, denS, den, dens, denAnd, denOr, denO, denA, denI, denT, denF, setR, ifR, bin2, un1, notD, chain2, andB, orB, iteB, tupR, lstR, consR, consG, datR, sloR, argSl, bltR, isiR, rdv, ixvR, held, isUn, subS, lenvR, lenS, callR, SR.seq, Res.to, B2.den, add_i, sub_i, C2.den, icmp, negD, itR, itsD, e3]) e4]
        rfl
      · have e5 := c5 r c e p [.val (tbD r c e), .val (.int x), .val (plD p)] (mem_allP.mp hp)
        exact den_eq (den_call (ars := [.dat (tbD r c e), .dat (plD p)]) rfl e5) rfl (eqD_int _ _)
  · have e1 := fun ρ => c1.ok d ρ ht
    have e2 := fun ρ => c2.no y ρ hx
    show Xc 2 .number (denSs Δ1 G B_places_of [.val d, .val y, .un])
    unfold B_places_of
    simp [denSs, denS, den, dens, denAnd, denOr, denO, denA, denI, denT, denF, setR, ifR, bin2, un1, notD, chain2, andB, orB, iteB, tupR, lstR, consR, consG, datR, sloR, argSl, bltR, isiR, rdv, ixvR, held, isUn, subS, lenvR, lenS, callR, SR.seq, Res.to, B2.den, add_i, sub_i, C2.den, icmp, negD, itR, itsD, e1, e2]
theorem mem_left {r c : Nat} {s : List Lk} {p : Pl} : p ∈ leftP r c s ↔ inSz r c p ∧ okMore s p = true := by
  simp [leftP, mem_allP]
theorem okMore_iff {s : List Lk} {p : Pl} : okMore s p = true ↔ fcs (s ++ [(p, .eq)]) = none := by
  simp [okMore]
theorem okMore_right {r c : Nat} {e : Nat → Nat → Int} {x : Int} (h : Rising r c e) {s : List Lk} (hs : ∀ l ∈ s, inSz r c l.1) (ht : ∀ l ∈ s, l.2 = ansOf e x l.1) {p : Pl} (hp : inSz r c p) (he : e p.1 p.2 = x) : okMore s p = true := by
  rw [okMore_iff]
  refine fcs_right h (x := x) (fun l hl => ?_) (fun l hl => ?_)
  · rcases List.mem_append.mp hl with hl | hl
    · exact hs l hl
    · rw [List.mem_singleton.mp hl]; exact hp
  · rcases List.mem_append.mp hl with hl | hl
    · exact ht l hl
    · rw [List.mem_singleton.mp hl]; exact (ans_eq.mpr he).symm
end Dm
namespace Dm
open PySem PySem.Spec PyProof.Rows L2 LamX
/-! ### the need, as a number -/
def wUp (ps : List Pl) (p : Pl) : List Pl := ps.filter fun q => !upTo q p
def wFr (ps : List Pl) (p : Pl) : List Pl := ps.filter fun q => !upTo p q
def Nd : Nat → List Pl → Int
  | 0, _ => 0
  | f + 1, ps => if ps = [] then 0 else 1 + minL (ps.map fun p => max (Nd f (wUp ps p)) (Nd f (wFr ps p)))
def N (ps : List Pl) : Int := Nd ps.length ps
theorem filter_lt {α : Type} {q : α → Bool} {x : α} : ∀ {xs : List α}, x ∈ xs → q x = false → (xs.filter q).length < xs.length
  | y :: ys, h, hq => by
    rw [List.filter_cons]
    rcases List.mem_cons.mp h with rfl | h
    · rw [hq]
      simp only [Bool.false_eq_true, if_false, List.length_cons]
      have := List.length_filter_le q ys
      omega
    · have := filter_lt h hq
      split
      · simp only [List.length_cons]; omega
      · simp only [List.length_cons]; omega
theorem wUp_lt {ps : List Pl} {p : Pl} (h : p ∈ ps) : (wUp ps p).length < ps.length := filter_lt h (by rw [up_refl]; rfl)
theorem wFr_lt {ps : List Pl} {p : Pl} (h : p ∈ ps) : (wFr ps p).length < ps.length := filter_lt h (by rw [up_refl]; rfl)
theorem Nd_fuel : ∀ (f g : Nat) (ps : List Pl), ps.length ≤ f → ps.length ≤ g → Nd f ps = Nd g ps
  | 0, 0, _, _, _ => rfl
  | 0, g + 1, ps, h, _ => by
    have : ps = [] := List.length_eq_zero_iff.mp (by omega)
    simp [Nd, this]
  | f + 1, 0, ps, _, h => by
    have : ps = [] := List.length_eq_zero_iff.mp (by omega)
    simp [Nd, this]
  | f + 1, g + 1, ps, hf, hg => by
    unfold Nd
    split
    · rfl
    · congr 2
      refine List.map_congr_left fun p hp => ?_
      have h1 := wUp_lt hp
      have h2 := wFr_lt hp
      rw [Nd_fuel f g (wUp ps p) (by omega) (by omega), Nd_fuel f g (wFr ps p) (by omega) (by omega)]
def wst (ps : List Pl) (p : Pl) : Int := max (N (wUp ps p)) (N (wFr ps p))
theorem N_nil : N [] = 0 := rfl
theorem N_rec {ps : List Pl} (h : ps ≠ []) : N ps = 1 + minL (ps.map (wst ps)) := by
  unfold N
  obtain ⟨n, hn⟩ : ∃ n, ps.length = n + 1 := ⟨ps.length - 1, by have := List.length_pos_iff.mpr h; omega⟩
  rw [hn]
  unfold Nd
  rw [if_neg h]
  congr 2
  refine List.map_congr_left fun p hp => ?_
  have h1 := wUp_lt hp
  have h2 := wFr_lt hp
  unfold wst N
  rw [Nd_fuel n (wUp ps p).length (wUp ps p) (by omega) (Nat.le_refl _), Nd_fuel n (wFr ps p).length (wFr ps p) (by omega) (Nat.le_refl _)]
theorem minL_le {xs : List Int} {x : Int} (h : x ∈ xs) : minL xs ≤ x := by
  induction xs with
  | nil => cases h
  | cons a xs ih =>
    cases xs with
    | nil => rcases List.mem_cons.mp h with rfl | h
             · exact Int.le_refl _
             · cases h
    | cons b xs =>
      show min a (minL (b :: xs)) ≤ x
      rcases List.mem_cons.mp h with rfl | h
      · omega
      · have := ih h; omega
theorem minL_mem : ∀ {xs : List Int}, xs ≠ [] → minL xs ∈ xs
  | [a], _ => List.mem_singleton.mpr rfl
  | a :: b :: xs, _ => by
    have := minL_mem (xs := b :: xs) (by simp)
    show min a (minL (b :: xs)) ∈ _
    rcases Int.le_total a (minL (b :: xs)) with h | h
    · rw [Int.min_eq_left h]; exact List.mem_cons_self
    · rw [Int.min_eq_right h]; exact List.mem_cons_of_mem _ this
theorem N_le {ps : List Pl} {p : Pl} (h : p ∈ ps) : N ps ≤ 1 + wst ps p := by
  rw [N_rec (fun z => by subst z; cases h)]
  have := minL_le (List.mem_map.mpr ⟨p, h, rfl⟩ : wst ps p ∈ ps.map (wst ps))
  omega
theorem N_best {ps : List Pl} (h : ps ≠ []) : ∃ p, p ∈ ps ∧ N ps = 1 + wst ps p := by
  have := minL_mem (xs := ps.map (wst ps)) (by simpa using h)
  obtain ⟨p, h1, h2⟩ := List.mem_map.mp this
  exact ⟨p, h1, by rw [N_rec h, h2]⟩
theorem N_nonneg : ∀ (n : Nat) (ps : List Pl), ps.length ≤ n → 0 ≤ N ps
  | 0, ps, h => by
    have : ps = [] := List.length_eq_zero_iff.mp (by omega)
    rw [this]; exact Int.le_refl _
  | n + 1, ps, h => by
    by_cases hp : ps = []
    · rw [hp]; exact Int.le_refl _
    · obtain ⟨p, h1, h2⟩ := N_best hp
      have h3 := wUp_lt h1
      have := N_nonneg n (wUp ps p) (by omega)
      rw [h2]
      unfold wst
      omega
theorem N_le_len : ∀ (n : Nat) (ps : List Pl), ps.length ≤ n → N ps ≤ ps.length
  | 0, ps, h => by
    have : ps = [] := List.length_eq_zero_iff.mp (by omega)
    rw [this]; exact Int.le_refl _
  | n + 1, ps, h => by
    cases ps with
    | nil => exact Int.le_refl _
    | cons p ps =>
      have h1 := wUp_lt (List.mem_cons_self : p ∈ p :: ps)
      have h2 := wFr_lt (List.mem_cons_self : p ∈ p :: ps)
      have a := N_le_len n (wUp (p :: ps) p) (by omega)
      have b := N_le_len n (wFr (p :: ps) p) (by omega)
      have := N_le (List.mem_cons_self : p ∈ p :: ps)
      unfold wst at this
      omega
/-- places with what stands between -/
def Conv (U ps : List Pl) : Prop := ∀ a b q, a ∈ ps → b ∈ ps → q ∈ U → upTo a q = true → upTo q b = true → q ∈ ps
theorem conv_up {U ps : List Pl} (h : Conv U ps) (p : Pl) : Conv U (wUp ps p) := by
  intro a b q ha hb hq h1 h2
  obtain ⟨ha1, ha2⟩ := List.mem_filter.mp ha
  obtain ⟨hb1, _⟩ := List.mem_filter.mp hb
  refine List.mem_filter.mpr ⟨h a b q ha1 hb1 hq h1 h2, ?_⟩
  cases hu : upTo q p with
  | false => rfl
  | true => rw [up_trans h1 hu] at ha2; cases ha2
theorem conv_fr {U ps : List Pl} (h : Conv U ps) (p : Pl) : Conv U (wFr ps p) := by
  intro a b q ha hb hq h1 h2
  obtain ⟨ha1, _⟩ := List.mem_filter.mp ha
  obtain ⟨hb1, hb2⟩ := List.mem_filter.mp hb
  refine List.mem_filter.mpr ⟨h a b q ha1 hb1 hq h1 h2, ?_⟩
  cases hu : upTo p q with
  | false => rfl
  | true => rw [up_trans hu h2] at hb2; cases hb2
theorem N_mono {U : List Pl} : ∀ (n : Nat) (A B : List Pl), B.length ≤ n → (∀ q ∈ A, q ∈ B) → (∀ q ∈ B, q ∈ U) → Conv U A → N A ≤ N B
  | 0, A, B, hn, hs, _, _ => by
    have hB : B = [] := List.length_eq_zero_iff.mp (by omega)
    have hA : A = [] := by
      cases A with
      | nil => rfl
      | cons a A => have := hs a List.mem_cons_self; rw [hB] at this; cases this
    rw [hA, hB]; exact Int.le_refl _
  | n + 1, A, B, hn, hs, hU, hc => by
    by_cases hB : B = []
    · have hA : A = [] := by
        cases A with
        | nil => rfl
        | cons a A => have := hs a List.mem_cons_self; rw [hB] at this; cases this
      rw [hA, hB]; exact Int.le_refl _
    · obtain ⟨p, h1, h2⟩ := N_best hB
      have hu : ∀ q, q ∈ wUp A p → q ∈ wUp B p := fun q hq => by
        obtain ⟨a, b⟩ := List.mem_filter.mp hq
        exact List.mem_filter.mpr ⟨hs q a, b⟩
      have hf : ∀ q, q ∈ wFr A p → q ∈ wFr B p := fun q hq => by
        obtain ⟨a, b⟩ := List.mem_filter.mp hq
        exact List.mem_filter.mpr ⟨hs q a, b⟩
      have lu := wUp_lt h1
      have lf := wFr_lt h1
      have iu := N_mono n (wUp A p) (wUp B p) (by omega) hu (fun q hq => hU q (List.mem_filter.mp hq).1) (conv_up hc p)
      have jf := N_mono n (wFr A p) (wFr B p) (by omega) hf (fun q hq => hU q (List.mem_filter.mp hq).1) (conv_fr hc p)
      by_cases hp : p ∈ A
      · have := N_le hp
        unfold wst at this h2
        omega
      · by_cases hd : ∃ a ∈ A, upTo a p = true
        · by_cases hq : ∃ b ∈ A, upTo p b = true
          · obtain ⟨a, ha, ha2⟩ := hd
            obtain ⟨b, hb, hb2⟩ := hq
            exact absurd (hc a b p ha hb (hU p h1) ha2 hb2) hp
          · have : wFr A p = A := List.filter_eq_self.mpr fun q hq' => by
              cases hu : upTo p q with
              | false => rfl
              | true => exact absurd ⟨q, hq', hu⟩ hq
            rw [this] at jf
            unfold wst at h2
            omega
        · have : wUp A p = A := List.filter_eq_self.mpr fun q hq' => by
            cases hu : upTo q p with
            | false => rfl
            | true => exact absurd ⟨q, hq', hu⟩ hd
          rw [this] at iu
          unfold wst at h2
          omega
/-- the block of rows from i on, m columns -/
def blk (r i m : Nat) : List Pl := (allP r m).filter fun p => decide (i ≤ p.1)
theorem mem_blk {r i m : Nat} {p : Pl} : p ∈ blk r i m ↔ (i ≤ p.1 ∧ p.1 < r) ∧ p.2 < m := by
  simp [blk, mem_allP, inSz, and_comm, and_assoc]
theorem blk_conv (r c i m : Nat) : Conv (allP r c) (blk r i m) := by
  intro a b q ha hb hq h1 h2
  rw [mem_blk] at *
  rw [up_iff] at h1 h2
  omega
theorem N_blk {r c : Nat} : ∀ (k i m : Nat), r - i + m ≤ k → m ≤ c → N (blk r i m) ≤ if i < r ∧ 0 < m then (r : Int) - i + m - 1 else 0
  | k, i, m, hk, hm => by
    by_cases h : i < r ∧ 0 < m
    · rw [if_pos h]
      obtain ⟨k, rfl⟩ : ∃ j, k = j + 1 := ⟨k - 1, by omega⟩
      have hp : (i, m - 1) ∈ blk r i m := mem_blk.mpr ⟨⟨Nat.le_refl _, h.1⟩, by dsimp; omega⟩
      have e1 := N_mono (U := allP r c) _ (wUp (blk r i m) (i, m - 1)) (blk r (i + 1) m) (Nat.le_refl _) (fun q hq => by
        obtain ⟨a, b⟩ := List.mem_filter.mp hq
        rw [mem_blk] at a ⊢
        have : ¬ upTo q (i, m - 1) = true := by simpa using b
        rw [up_iff] at this
        dsimp at this
        omega) (fun q hq => by rw [mem_blk] at hq; exact mem_allP.mpr ⟨by omega, by omega⟩) (conv_up (blk_conv r c i m) _)
      have e2 := N_mono (U := allP r c) _ (wFr (blk r i m) (i, m - 1)) (blk r i (m - 1)) (Nat.le_refl _) (fun q hq => by
        obtain ⟨a, b⟩ := List.mem_filter.mp hq
        rw [mem_blk] at a ⊢
        have : ¬ upTo (i, m - 1) q = true := by simpa using b
        rw [up_iff] at this
        dsimp at this
        omega) (fun q hq => by rw [mem_blk] at hq; exact mem_allP.mpr ⟨by omega, by omega⟩) (conv_fr (blk_conv r c i m) _)
      have i1 := N_blk (r := r) (c := c) k (i + 1) m (by omega) hm
      have i2 := N_blk (r := r) (c := c) k i (m - 1) (by omega) (by omega)
      have := N_le hp
      unfold wst at this
      split at i1 <;> split at i2 <;> omega
    · rw [if_neg h]
      have : blk r i m = [] := by
        cases hb : blk r i m with
        | nil => rfl
        | cons p l =>
          have : p ∈ blk r i m := by rw [hb]; exact List.mem_cons_self
          rw [mem_blk] at this
          omega
      rw [this]; exact Int.le_refl _
theorem N_bound {r c : Nat} (hr : 1 ≤ r) (hc : 1 ≤ c) {A : List Pl} (hA : ∀ q ∈ A, q ∈ allP r c) (hcv : Conv (allP r c) A) : N A ≤ (r : Int) + c - 1 := by
  have e : blk r 0 c = allP r c := List.filter_eq_self.mpr fun q _ => by simp
  have h1 := N_blk (r := r) (c := c) _ 0 c (Nat.le_refl _) (Nat.le_refl _)
  rw [e, if_pos ⟨by omega, by omega⟩] at h1
  have h2 := N_mono (U := allP r c) _ A (allP r c) (Nat.le_refl _) hA (fun q h => h) hcv
  omega
end Dm
namespace Dm
open PySem PySem.Spec PyProof.Rows L2 LamX
/-! ### the dict of needs -/
def kP (p : Pl) : NestedKey := .tup [.num p.1, .num p.2]
def keyP (ps : List Pl) : NestedKey := .tup (ps.map kP)
theorem kP_inj {p q : Pl} (h : kP p = kP q) : p = q := by
  unfold kP at h
  have h := NestedKey.tup.inj h
  simp only [List.cons.injEq, NestedKey.num.injEq, and_true] at h
  exact Prod.ext (by omega) (by omega)
theorem mapkP_inj : ∀ {ps qs : List Pl}, ps.map kP = qs.map kP → ps = qs
  | [], [], _ => rfl
  | [], q :: qs, h => by simp at h
  | p :: ps, [], h => by simp at h
  | p :: ps, q :: qs, h => by
    simp only [List.map_cons, List.cons.injEq] at h
    rw [kP_inj h.1, mapkP_inj h.2]
theorem keyP_inj {ps qs : List Pl} (h : keyP ps = keyP qs) : ps = qs := mapkP_inj (NestedKey.tup.inj h)
theorem keysOf_pls : ∀ ps : List Pl, keysOf (plsD ps) = some (ps.map kP)
  | [] => rfl
  | p :: ps => by
    have ih := keysOf_pls ps
    simp only [plsD, List.map_cons] at ih ⊢
    rw [keysOf, ih]
    rfl
theorem depth_pls : ∀ ps : List Pl, NestedKey.depthAll (ps.map kP) ≤ 1
  | [] => by simp [NestedKey.depthAll]
  | p :: ps => by
    have := depth_pls ps
    rw [List.map_cons, NestedKey.depthAll]
    have h : (kP p).depth = 1 := by simp [kP, NestedKey.depth, NestedKey.depthAll]
    omega
theorem keyT_pls (ps : List Pl) : keyT (.tuple (plsD ps)) = some (keyP ps) := by
  unfold keyT
  dsimp only
  rw [keysOf_pls]
  dsimp only
  rw [if_pos]
  · rfl
  · rw [NestedKey.depth]
    have := depth_pls ps
    omega
theorem get_put {kvs : List (NestedKey × D)} {k k' : NestedKey} {d : D} : dGet (dPut kvs k d) k' = if k = k' then some d else dGet kvs k' := by
  unfold dGet dPut stF
  cases hf : fndK kvs k with
  | none =>
    simp only [Option.isSome_none, Bool.false_eq_true, if_false]
    unfold fndK at *
    rw [List.find?_append]
    by_cases hk : k = k'
    · subst hk
      rw [hf]
      simp
    · rw [if_neg hk]
      have : List.find? (fun x => decide (x.1 = k')) [(k, d)] = none := by simp [hk]
      rw [this, Option.or_none]
  | some y =>
    simp only [Option.isSome_some, if_true]
    unfold fndK at *
    rw [List.find?_map]
    have e : ((fun x : NestedKey × D => decide (x.1 = k')) ∘ fun x => if x.1 = k then (x.1, d) else x) = fun x => decide (x.1 = k') := by
      funext x
      show decide ((if x.1 = k then (x.1, d) else x).1 = k') = _
      split <;> rfl
    rw [e]
    by_cases hk : k = k'
    · subst hk
      rw [hf, if_pos rfl]
      have := List.find?_some hf
      simp at this
      simp [this]
    · rw [if_neg hk]
      cases hg : List.find? (fun x => decide (x.1 = k')) kvs with
      | none => rfl
      | some z =>
        have := List.find?_some hg
        simp only [decide_eq_true_eq] at this
        have : ¬ z.1 = k := fun w => hk (w.symm.trans this)
        simp [this]
/-- all that can be left of a list -/
def powL {α : Type} : List α → List (List α)
  | [] => [[]]
  | a :: l => powL l ++ (powL l).map (a :: ·)
theorem powL_len {α : Type} : ∀ l : List α, (powL l).length = 2 ^ l.length
  | [] => rfl
  | a :: l => by
    rw [powL, List.length_append, List.length_map, powL_len l, List.length_cons, Nat.pow_succ]
    omega
theorem powL_filter {α : Type} (q : α → Bool) : ∀ {l ps : List α}, ps ∈ powL l → ps.filter q ∈ powL l
  | [], ps, h => by
    have : ps = [] := by simpa [powL] using h
    rw [this]; simp [powL]
  | a :: l, ps, h => by
    rw [powL] at h ⊢
    rcases List.mem_append.mp h with h | h
    · exact List.mem_append_left _ (powL_filter q h)
    · obtain ⟨ps', h1, rfl⟩ := List.mem_map.mp h
      rw [List.filter_cons]
      split
      · exact List.mem_append_right _ (List.mem_map.mpr ⟨_, powL_filter q h1, rfl⟩)
      · exact List.mem_append_left _ (powL_filter q h1)
theorem powL_le {α : Type} : ∀ {l ps : List α}, ps ∈ powL l → ps.length ≤ l.length
  | [], ps, h => by
    have : ps = [] := by simpa [powL] using h
    rw [this]; simp
  | a :: l, ps, h => by
    rw [powL] at h
    rcases List.mem_append.mp h with h | h
    · have := powL_le h; simp only [List.length_cons]; omega
    · obtain ⟨ps', h1, rfl⟩ := List.mem_map.mp h
      have := powL_le h1; simp only [List.length_cons]; omega
theorem powL_self {α : Type} : ∀ l : List α, l ∈ powL l
  | [] => by simp [powL]
  | a :: l => by
    rw [powL]
    exact List.mem_append_right _ (List.mem_map.mpr ⟨l, powL_self l, rfl⟩)
theorem nodup_sub {α : Type} [DecidableEq α] : ∀ {l m : List α}, l.Nodup → (∀ x ∈ l, x ∈ m) → l.length ≤ m.length
  | [], _, _, _ => Nat.zero_le _
  | a :: l, m, hn, hs => by
    obtain ⟨h1, h2⟩ := List.nodup_cons.mp hn
    have ha := hs a List.mem_cons_self
    have := nodup_sub (l := l) (m := m.erase a) h2 (fun x hx => (List.mem_erase_of_ne (fun z => h1 (by rw [← z]; exact hx))).mpr (hs x (List.mem_cons_of_mem _ hx)))
    rw [List.length_erase_of_mem ha] at this
    have : 0 < m.length := List.length_pos_of_mem ha
    simp only [List.length_cons]
    omega
structure Inv (l0 : List Pl) (kvs : List (NestedKey × D)) : Prop where
  val : ∀ ps v, dGet kvs (keyP ps) = some v → v = .int (N ps)
  nd : (kvs.map (·.1)).Nodup
  sub : ∀ k ∈ kvs.map (·.1), k ∈ (powL l0).map keyP
theorem Inv.nil (l0 : List Pl) : Inv l0 [] := ⟨fun ps v h => (by cases h), List.nodup_nil, fun k h => (by cases h)⟩
theorem Inv.len {l0 : List Pl} {kvs : List (NestedKey × D)} (h : Inv l0 kvs) (hl : l0.length ≤ 16) : kvs.length < 1000000 := by
  have := nodup_sub h.nd h.sub
  rw [List.length_map, List.length_map, powL_len] at this
  have h2 : 2 ^ l0.length ≤ 2 ^ 16 := Nat.pow_le_pow_right (by decide) hl
  have h3 : 2 ^ 16 < 1000000 := by decide
  omega
theorem Inv.put {l0 ps : List Pl} {kvs : List (NestedKey × D)} (h : Inv l0 kvs) (hp : ps ∈ powL l0) : Inv l0 (dPut kvs (keyP ps) (.int (N ps))) := by
  refine ⟨fun qs v hv => ?_, st_keys h.nd, fun k hk => ?_⟩
  · rw [get_put] at hv
    split at hv
    · rename_i e
      rw [← keyP_inj e]
      exact (Option.some.inj hv).symm
    · exact h.val qs v hv
  · unfold dPut stF at hk
    split at hk
    · have : (kvs.map fun x => if x.1 = keyP ps then (x.1, PyData.int (N ps)) else x).map (·.1) = kvs.map (·.1) := by
        rw [List.map_map]
        refine List.map_congr_left fun x _ => ?_
        by_cases e : x.1 = keyP ps <;> simp [e]
      rw [this] at hk
      exact h.sub k hk
    · rw [List.map_append] at hk
      rcases List.mem_append.mp hk with hk | hk
      · exact h.sub k hk
      · simp only [List.map_cons, List.map_nil, List.mem_singleton] at hk
        rw [hk]
        exact List.mem_map.mpr ⟨ps, hp, rfl⟩
/-! ### a comprehension that changes a slot -/
section
variable {α : Type} {v : Nat} {it : Rho → Res (List D)} {elt : Rho → Res D} {ρ : Rho}
theorem compL_I (I : Rho → Prop) (g f : α → D) : ∀ (xs : List α) (ρ : Rho), I ρ → (∀ x ∈ xs, ∀ ρ, I ρ → ∃ ρ', elt (ρ.set v (.val (g x))) = .ok (f x) ρ' ∧ I (ρ'.set v .un)) → ∃ ρ', I ρ' ∧ compL (.nm v) [v] none elt (xs.map g) ρ = .ok (xs.map f) ρ'
  | [], ρ, h0, _ => ⟨ρ, h0, rfl⟩
  | x :: xs, ρ, h0, h => by
    obtain ⟨ρ1, e1, e2⟩ := h x List.mem_cons_self ρ h0
    obtain ⟨ρ2, e3, e4⟩ := compL_I I g f xs _ e2 fun y hy => h y (List.mem_cons_of_mem _ hy)
    refine ⟨ρ2, e3, ?_⟩
    rw [List.map_cons, compL]
    show (match some (ρ.set v (.val (g x))) with | _ => _) = _
    simp only [bindP, e1, nox, Res.bind_ok]
    rw [show wiped ρ1 [v] = ρ1.set v .un from rfl, e4]
    rfl
theorem comp_nmI (I : Rho → Prop) (xs : List α) (g f : α → D) (h0 : I ρ) (hit : it ρ = .ok (xs.map g) ρ) (hl : xs.length ≤ 1000000) (hv : ∀ ρ, I ρ → ρ[v]? = some .un) (h : ∀ x ∈ xs, ∀ ρ, I ρ → ∃ ρ', elt (ρ.set v (.val (g x))) = .ok (f x) ρ' ∧ I (ρ'.set v .un)) :
    ∃ ρ', I ρ' ∧ compR (.nm v) [v] it none elt ρ = .ok (.list (xs.map f)) ρ' := by
  obtain ⟨ρ', h1, h2⟩ := compL_I I g f xs ρ h0 h
  refine ⟨ρ', h1, ?_⟩
  unfold compR
  rw [hit, Res.bind_ok, if_pos (by rw [free1 (hv ρ h0), List.length_map]; simp [hl])]
  rw [show wiped ρ [v] = ρ from setUn (hv ρ h0), h2]
  show Res.ok _ (ρ'.set v (ρ[v]?.getD .un)) = _
  rw [hv ρ h0]
  show Res.ok _ (ρ'.set v .un) = _
  rw [setUn (hv ρ' h1)]
end
/-! ### the need by the program -/
def SpWu (Δ : Nat → Fn) : Prop := ∀ (ps : List Pl) (p : Pl) ρ, ps.length ≤ 1000 → callD (Δ i_without_up_to) false [.dat (.tuple (plsD ps)), .dat (plD p)] ρ = .ok (.tuple (plsD (wUp ps p))) ρ
theorem sp_wu {Δ Δ1 : Nat → Fn} {G : List (Str × D)} (h : Δ i_without_up_to = F_without_up_to.fn Δ1 G) (c1 : SpUp Δ1) : SpWu Δ := fun ps p ρ hl => by
  refine call_rt (ds := [.tuple (plsD ps), plD p]) h rfl ?_ ρ
  show Rt 2 _ (denSs Δ1 G B_without_up_to [.val (.tuple (plsD ps)), .val (plD p), .un])
  unfold B_without_up_to
  rw [ss_rt (s_ret (ρ1 := [.val (.tuple (plsD ps)), .val (plD p), .un]) (den_blt (dens_cons (x := .list (plsD (wUp ps p))) (ρ1 := [.val (.tuple (plsD ps)), .val (plD p), .un]) ?h1 dens_nil) rfl))]
  · exact Rt.of rfl (by simp)
  case h1 =>
    refine comp_nmF ps plD plD (fun q => !upTo q p) rfl rfl (by omega) (fun q hq => ?_) (fun q hq _ => rfl)
    exact den_not (den_call (ars := [.dat (plD q), .dat (plD p)]) rfl (c1 q p _))
def SpWf (Δ : Nat → Fn) : Prop := ∀ (ps : List Pl) (p : Pl) ρ, ps.length ≤ 1000 → callD (Δ i_without_from) false [.dat (.tuple (plsD ps)), .dat (plD p)] ρ = .ok (.tuple (plsD (wFr ps p))) ρ
theorem sp_wf {Δ Δ1 : Nat → Fn} {G : List (Str × D)} (h : Δ i_without_from = F_without_from.fn Δ1 G) (c1 : SpUp Δ1) : SpWf Δ := fun ps p ρ hl => by
  refine call_rt (ds := [.tuple (plsD ps), plD p]) h rfl ?_ ρ
  show Rt 2 _ (denSs Δ1 G B_without_from [.val (.tuple (plsD ps)), .val (plD p), .un])
  unfold B_without_from
  rw [ss_rt (s_ret (ρ1 := [.val (.tuple (plsD ps)), .val (plD p), .un]) (den_blt (dens_cons (x := .list (plsD (wFr ps p))) (ρ1 := [.val (.tuple (plsD ps)), .val (plD p), .un]) ?h1 dens_nil) rfl))]
  · exact Rt.of rfl (by simp)
  case h1 =>
    refine comp_nmF ps plD plD (fun q => !upTo p q) rfl rfl (by omega) (fun q hq => ?_) (fun q hq _ => rfl)
    exact den_not (den_call (ars := [.dat (plD p), .dat (plD q)]) rfl (c1 p q _))
structure NeedAt (Δ : Nat → Fn) (L : Nat) : Prop where
  ar : (Δ i_need_of).ar = 2
  sem : ∀ (l0 : List Pl), l0.length ≤ 16 → ∀ ps, ps ∈ powL l0 → ps.length ≤ L → ∀ kvs, Inv l0 kvs → ∃ kvs', Inv l0 kvs' ∧ (Δ i_need_of).sem [.val (.tuple (plsD ps)), .dic true kvs] = .ok (.int (N ps)) [.un, .dic true kvs']
structure WorstAt (Δ : Nat → Fn) (L : Nat) : Prop where
  ar : (Δ i_worst).ar = 3
  sem : ∀ (l0 : List Pl), l0.length ≤ 16 → ∀ ps, ps ∈ powL l0 → ps.length ≤ L → ∀ p, p ∈ ps → ∀ kvs, Inv l0 kvs → ∃ kvs', Inv l0 kvs' ∧ (Δ i_worst).sem [.val (.tuple (plsD ps)), .val (plD p), .dic true kvs] = .ok (.int (wst ps p)) [.un, .un, .dic true kvs']
theorem need_call {Δ : Nat → Fn} {L : Nat} (h : NeedAt Δ L) {l0 ps : List Pl} (hl : l0.length ≤ 16) (hp : ps ∈ powL l0) (hL : ps.length ≤ L) {kvs : List (NestedKey × D)} (hi : Inv l0 kvs) {ρ : Rho} {j : Nat} {fx : Bool} (hj : ρ[j]? = some (.dic fx kvs)) :
    ∃ kvs', Inv l0 kvs' ∧ callD (Δ i_need_of) false [.dat (.tuple (plsD ps)), .slo j] ρ = .ok (.int (N ps)) (ρ.set j (.dic fx kvs')) := by
  obtain ⟨kvs', h1, h2⟩ := h.sem l0 hl ps hp hL kvs hi
  refine ⟨kvs', h1, callD_ok (ss := [.val (.tuple (plsD ps)), .dic true kvs]) ?_ rfl h.ar h2 ?_⟩
  · simp [argSls, argSl, hj]
  · simp [wback, hj, reown]
theorem need_new {Δ : Nat → Fn} {L : Nat} (h : NeedAt Δ L) {ps : List Pl} (hl : ps.length ≤ 16) (hL : ps.length ≤ L) (ρ : Rho) :
    callD (Δ i_need_of) true [.dat (.tuple (plsD ps))] ρ = .ok (.int (N ps)) ρ := by
  obtain ⟨kvs', h1, h2⟩ := h.sem ps hl ps (powL_self ps) hL [] (Inv.nil ps)
  exact callD_ok (ss := [.val (.tuple (plsD ps))]) rfl rfl h.ar h2 rfl
theorem worst_call {Δ : Nat → Fn} {L : Nat} (h : WorstAt Δ L) {l0 ps : List Pl} (hl : l0.length ≤ 16) (hp : ps ∈ powL l0) (hL : ps.length ≤ L) {p : Pl} (hpp : p ∈ ps) {kvs : List (NestedKey × D)} (hi : Inv l0 kvs) {ρ : Rho} {j : Nat} {fx : Bool} (hj : ρ[j]? = some (.dic fx kvs)) :
    ∃ kvs', Inv l0 kvs' ∧ callD (Δ i_worst) false [.dat (.tuple (plsD ps)), .dat (plD p), .slo j] ρ = .ok (.int (wst ps p)) (ρ.set j (.dic fx kvs')) := by
  obtain ⟨kvs', h1, h2⟩ := h.sem l0 hl ps hp hL p hpp kvs hi
  refine ⟨kvs', h1, callD_ok (ss := [.val (.tuple (plsD ps)), .val (plD p), .dic true kvs]) ?_ rfl h.ar h2 ?_⟩
  · simp [argSls, argSl, hj]
  · simp [wback, hj, reown]
theorem sp_worst {Δ Δ1 : Nat → Fn} {G : List (Str × D)} {L : Nat} (h : Δ i_worst = F_worst.fn Δ1 G) (hN : NeedAt Δ1 L) (c1 : SpWu Δ1) (c2 : SpWf Δ1) : WorstAt Δ (L + 1) :=
  ⟨by rw [h]; rfl, fun l0 hl ps hp hL p hpp kvs hi => by
    have l1 := wUp_lt hpp
    have l2 := wFr_lt hpp
    have hps : ps.length ≤ 1000 := by have := powL_le hp; omega
    obtain ⟨k1, i1, e1⟩ := need_call hN (ps := wUp ps p) hl (powL_filter _ hp) (by omega) hi (ρ := [.val (.tuple (plsD ps)), .val (plD p), .dic true kvs]) (j := 2) (fx := true) rfl
    obtain ⟨k2, i2, e2⟩ := need_call hN (ps := wFr ps p) hl (powL_filter _ hp) (by omega) i1 (ρ := [.val (.tuple (plsD ps)), .val (plD p), .dic true k1]) (j := 2) (fx := true) rfl
    refine ⟨k2, i2, ?_⟩
    rw [h]
    refine run_rt (L := 3) (ss := [.val (.tuple (plsD ps)), .val (plD p), .dic true kvs]) (d := .int (wst ps p)) (ρ' := [.val (.tuple (plsD ps)), .val (plD p), .dic true k2]) ?_ rfl
    show denSs Δ1 G B_worst [.val (.tuple (plsD ps)), .val (plD p), .dic true kvs] = _
    have a1 := c1 ps p [.val (.tuple (plsD ps)), .val (plD p), .dic true kvs] hps
    have a2 := c2 ps p [.val (.tuple (plsD ps)), .val (plD p), .dic true k1] hps
    simp only [List.set_cons_succ, List.set_cons_zero] at e1 e2
    unfold B_worst
    refine ss_rt (s_ret (den_blt (dens_cons (x := .int (N (wUp ps p))) (ρ1 := [.val (.tuple (plsD ps)), .val (plD p), .dic true k1]) ?_ (dens_cons (x := .int (N (wFr ps p))) (ρ1 := [.val (.tuple (plsD ps)), .val (plD p), .dic true k2]) ?_ dens_nil)) rfl))
    · simp [denSs, denS, den, dens, denAnd, denOr, denO, denA, denI, denT, denF, setR, ifR, bin2, un1, notD, chain2, andB, orB, iteB, tupR, lstR, consR, consG, datR, sloR, argSl, bltR, isiR, rdv, ixvR, held, isUn, subS, lenvR, lenS, callR, SR.seq, Res.to, B2.den, add_i, sub_i, C2.den, icmp, negD, itR, itsD, a1, e1]
    · simp [denSs, denS, den, dens, denAnd, denOr, denO, denA, denI, denT, denF, setR, ifR, bin2, un1, notD, chain2, andB, orB, iteB, tupR, lstR, consR, consG, datR, sloR, argSl, bltR, isiR, rdv, ixvR, held, isUn, subS, lenvR, lenS, callR, SR.seq, Res.to, B2.den, add_i, sub_i, C2.den, icmp, negD, itR, itsD, a2, e2]⟩
theorem sp_need0 {Δ Δ1 : Nat → Fn} {G : List (Str × D)} (h : Δ i_need_of = F_need_of.fn Δ1 G) : NeedAt Δ 0 :=
  ⟨by rw [h]; rfl, fun l0 hl ps hp hL kvs hi => by
    have : ps = [] := List.length_eq_zero_iff.mp (by omega)
    subst this
    refine ⟨kvs, hi, ?_⟩
    rw [h]
    show runF 3 (denSs Δ1 G B_need_of) [.val (.tuple (plsD [])), .dic true kvs] = .ok (.int (N [])) [.un, .dic true kvs]
    refine run_rt (L := 3) (ss := [.val (.tuple (plsD [])), .dic true kvs]) (d := .int (N [])) (ρ' := [.val (.tuple (plsD [])), .dic true kvs, .un]) ?_ rfl
    show denSs Δ1 G B_need_of [.val (.tuple (plsD [])), .dic true kvs, .un] = _
    unfold B_need_of
    have := eq_plsT [] []
    have e : den Δ1 G (.cmp .eq (.var 0) (.tup .nil)) [.val (.tuple (plsD [])), .dic true kvs, .un] = .ok (.bool true) [.val (.tuple (plsD [])), .dic true kvs, .un] := den_eq rfl rfl this
    rw [ss_cons, s_if_t e]
    rfl⟩
theorem sp_need {Δ Δ1 : Nat → Fn} {G : List (Str × D)} {L : Nat} (h : Δ i_need_of = F_need_of.fn Δ1 G) (hW : WorstAt Δ1 L) : NeedAt Δ L :=
  ⟨by rw [h]; rfl, fun l0 hl ps hp hL kvs hi => by
    by_cases hne : ps = []
    · exact (sp_need0 h).sem l0 hl ps hp (by rw [hne]; exact Nat.le_refl 0) kvs hi
    · have e0 : den Δ1 G (.cmp .eq (.var 0) (.tup .nil)) [.val (.tuple (plsD ps)), .dic true kvs, .un] = .ok (.bool false) [.val (.tuple (plsD ps)), .dic true kvs, .un] := den_eq rfl rfl (by
        show eqD (.tuple (plsD ps)) (.tuple (plsD [])) = _
        rw [eq_plsT, decide_eq_false hne])
      rw [h]
      have hk := keyT_pls ps
      have fin : ∀ kvs', Inv l0 kvs' → dGet kvs' (keyP ps) = some (.int (N ps)) → denSs Δ1 G (.cons (.ret (.ixv 1 (.var 0))) .nil) [.val (.tuple (plsD ps)), .dic true kvs', .un] = .rt (.int (N ps)) [.val (.tuple (plsD ps)), .dic true kvs', .un] := fun kvs' _ hg => by
        refine ss_rt (s_ret ?_)
        show ixvR 1 (rdv 0) _ = _
        simp [ixvR, held, isUn, rdv, subS, hk, hg]
      show ∃ kvs', Inv l0 kvs' ∧ runF 3 (denSs Δ1 G B_need_of) [.val (.tuple (plsD ps)), .dic true kvs] = _
      cases hg : dGet kvs (keyP ps) with
      | some w =>
        have hw := hi.val ps w hg
        subst hw
        refine ⟨kvs, hi, run_rt (L := 3) (ss := [.val (.tuple (plsD ps)), .dic true kvs]) (ρ' := [.val (.tuple (plsD ps)), .dic true kvs, .un]) ?_ rfl⟩
        show denSs Δ1 G B_need_of [.val (.tuple (plsD ps)), .dic true kvs, .un] = _
        unfold B_need_of
        rw [ss_nx (s_if_f e0)]
        have e1 : den Δ1 G (.inS true 1 (.var 0)) [.val (.tuple (plsD ps)), .dic true kvs, .un] = .ok (.bool false) [.val (.tuple (plsD ps)), .dic true kvs, .un] := by
          show inSR true 1 (rdv 0) _ = _
          simp [inSR, rdv, hk, hg]
        rw [ss_nx (s_if_f e1)]
        exact fin kvs hi hg
      | none =>
        obtain ⟨ρ', ⟨kvs1, i1, rfl⟩, e2⟩ := comp_nmI (v := 2) (it := itR (den Δ1 G (.var 0))) (elt := den Δ1 G (.call 62 false (.val (.var 0) (.val (.var 2) (.slo 1 .nil))))) (ρ := [.val (.tuple (plsD ps)), .dic true kvs, .un]) (fun ρ => ∃ kvs', Inv l0 kvs' ∧ ρ = [.val (.tuple (plsD ps)), .dic true kvs', .un]) ps plD (fun p => .int (wst ps p)) ⟨kvs, hi, rfl⟩ rfl (by have := powL_le hp; omega) (fun ρ ⟨_, _, e⟩ => by rw [e]; rfl) (fun p hpp ρ ⟨kvs', i', e⟩ => by
          subst e
          obtain ⟨k2, i2, e3⟩ := worst_call hW hl hp hL hpp i' (ρ := [.val (.tuple (plsD ps)), .dic true kvs', .val (plD p)]) (j := 1) (fx := true) rfl
          refine ⟨[.val (.tuple (plsD ps)), .dic true k2, .val (plD p)], ?_, k2, i2, rfl⟩
          exact den_call (ars := [.dat (.tuple (plsD ps)), .dat (plD p), .slo 1]) rfl e3)
        have i2 := i1.put hp
        have hlen := i1.len hl
        refine ⟨_, i2, run_rt (L := 3) (ss := [.val (.tuple (plsD ps)), .dic true kvs]) (ρ' := [.val (.tuple (plsD ps)), .dic true (dPut kvs1 (keyP ps) (.int (N ps))), .un]) ?_ rfl⟩
        show denSs Δ1 G B_need_of [.val (.tuple (plsD ps)), .dic true kvs, .un] = _
        unfold B_need_of
        rw [ss_nx (s_if_f e0)]
        have e1 : den Δ1 G (.inS true 1 (.var 0)) [.val (.tuple (plsD ps)), .dic true kvs, .un] = .ok (.bool true) [.val (.tuple (plsD ps)), .dic true kvs, .un] := by
          show inSR true 1 (rdv 0) _ = _
          simp [inSR, rdv, hk, hg]
        have emin : Bt.min.den [.list (ps.map fun p => .int (wst ps p))] = some (.int (minL (ps.map (wst ps)))) := by
          show (intsOf _).bind _ = _
          rw [intsOf_mapF]
          show (if (ps.map (wst ps)).isEmpty = true then none else some (PyData.int (minL (ps.map (wst ps))))) = _
          rw [if_neg (by simpa using hne)]
        have e3 : den Δ1 G (.bin .add (.int 1) (.blt .min (.cons (.comp (.nm 2) [("place", 2)] (.dat (.var 0)) .yes (.call 62 false (.val (.var 0) (.val (.var 2) (.slo 1 .nil))))) .nil))) [.val (.tuple (plsD ps)), .dic true kvs, .un] = .ok (.int (N ps)) [.val (.tuple (plsD ps)), .dic true kvs1, .un] := by
          refine den_bin (x := .int 1) (y := .int (minL (ps.map (wst ps)))) rfl (den_blt (dens_cons (x := .list (ps.map fun p => .int (wst ps p))) (ρ1 := [.val (.tuple (plsD ps)), .dic true kvs1, .un]) e2 dens_nil) emin) ?_
          rw [N_rec hne]; rfl
        rw [ss_nx (ρ1 := [.val (.tuple (plsD ps)), .dic true (dPut kvs1 (keyP ps) (.int (N ps))), .un]) ?h1]
        · exact fin _ i2 (by rw [get_put, if_pos rfl])
        case h1 =>
          rw [s_if_t e1]
          rw [ss_nx (ρ1 := [.val (.tuple (plsD ps)), .dic true (dPut kvs1 (keyP ps) (.int (N ps))), .un]) ?h2]
          · rfl
          case h2 =>
            show stR 1 (den Δ1 G _) (den Δ1 G (.var 0)) _ = _
            unfold stR
            rw [e3]
            simp [Res.to, held, isUn, den, rdv, stS, hk, isSc, hlen]⟩
end Dm
namespace Dm
open PySem PySem.Spec PyProof.Rows L2 LamX
/-! ### open places, need, best look, slow answer -/
def fndB (s : List Lk) : Bool := s.any fun l => decide (l.2 = .eq)
def SpFound (Δ : Nat → Fn) : Prop := ∀ (s : List Lk) ρ, s.length ≤ 1000 → callD (Δ i_is_found) false [.dat (stD s)] ρ = .ok (.bool (fndB s)) ρ
theorem any_id_map {α : Type} (q : α → Bool) (xs : List α) : (xs.map q).any id = xs.any q := by
  rw [List.any_map]; rfl
theorem sp_found {Δ Δ1 : Nat → Fn} {G : List (Str × D)} (h : Δ i_is_found = F_is_found.fn Δ1 G) : SpFound Δ := fun s ρ hl => by
  refine call_rt (ds := [stD s]) h rfl ?_ ρ
  show Rt 1 _ (denSs Δ1 G B_is_found [.val (stD s), .un, .un])
  unfold B_is_found
  rw [ss_rt (s_ret (d := .bool (fndB s)) (ρ1 := [.val (stD s), .un, .un]) (den_blt (dens_cons (x := .list (s.map fun l => .bool (decide (l.2 = .eq)))) (ρ1 := [.val (stD s), .un, .un]) ?h1 dens_nil) ?h2))]
  · exact Rt.of rfl (by simp)
  case h1 =>
    refine comp_tp s (fun l => plD l.1) (fun l => .str l.2.s) _ (by decide) rfl rfl rfl (by omega) (fun l hl => ?_)
    exact den_eq rfl rfl (eq_eq _)
  case h2 =>
    rw [bd_any, blsOf_mapF]
    show some (PyData.bool ((s.map _).any id)) = _
    rw [any_id_map]; rfl
def opP (r c : Nat) (s : List Lk) : List Pl := if fndB s then [] else leftP r c s
theorem allP_length (r c : Nat) : (allP r c).length = r * c := by
  induction r with
  | zero => simp [allP]
  | succ r ih =>
    unfold allP at ih ⊢
    rw [List.range_succ, List.flatMap_append, List.length_append, ih, Nat.succ_mul]
    simp
theorem leftP_len {r c : Nat} (hr : r ≤ 4) (hc : c ≤ 4) (s : List Lk) : (leftP r c s).length ≤ 16 := by
  have h1 := List.length_filter_le (okMore s) (allP r c)
  rw [allP_length] at h1
  exact Nat.le_trans h1 (Nat.mul_le_mul hr hc)
theorem opP_len {r c : Nat} (hr : r ≤ 4) (hc : c ≤ 4) (s : List Lk) : (opP r c s).length ≤ 16 := by
  unfold opP
  split
  · simp
  · exact leftP_len hr hc s
def SpOpen (Δ : Nat → Fn) : Prop := ∀ (r c : Nat) (s : List Lk) ρ, r ≤ 4 → c ≤ 4 → s.length ≤ 900 → callD (Δ i_open_places) false [.dat (szD r c), .dat (stD s)] ρ = .ok (.tuple (plsD (opP r c s))) ρ
theorem sp_open {Δ Δ1 : Nat → Fn} {G : List (Str × D)} (h : Δ i_open_places = F_open_places.fn Δ1 G) (c1 : SpFound Δ1) (c2 : SpLeftPl Δ1) : SpOpen Δ := fun r c s ρ hr hc hs => by
  refine call_rt (ds := [szD r c, stD s]) h rfl ?_ ρ
  have e1 := fun ρ => c1 s ρ (by omega)
  have e2 := fun ρ => c2 r c s ρ hr hc hs
  show Rt 2 _ (denSs Δ1 G B_open_places [.val (szD r c), .val (stD s)])
  unfold B_open_places opP
  cases hf : fndB s with
  | true =>
    rw [hf] at e1
    simp [denSs, denS, den, dens, denAnd, denOr, denO, denA, denI, denT, denF, setR, ifR, bin2, un1, notD, chain2, andB, orB, iteB, tupR, lstR, consR, consG, datR, sloR, argSl, bltR, isiR, rdv, ixvR, held, isUn, subS, lenvR, lenS, callR, SR.seq, Res.to, B2.den, add_i, sub_i, C2.den, icmp, negD, itR, itsD, e1, plsD]
  | false =>
    rw [hf] at e1
    simp [denSs, denS, den, dens, denAnd, denOr, denO, denA, denI, denT, denF, setR, ifR, bin2, un1, notD, chain2, andB, orB, iteB, tupR, lstR, consR, consG, datR, sloR, argSl, bltR, isiR, rdv, ixvR, held, isUn, subS, lenvR, lenS, callR, SR.seq, Res.to, B2.den, add_i, sub_i, C2.den, icmp, negD, itR, itsD, e1, e2]
structure SpNeed (Δ : Nat → Fn) : Prop where
  ok : ∀ (r c : Nat) s ρ, isSz (szD r c) = true → isSt r c (stD s) = true → s.length ≤ 900 → r ≤ 4 → c ≤ 4 → fcs s = none → callD (Δ i_need) false [.dat (szD r c), .dat (stD s)] ρ = .ok (.int (N (opP r c s))) ρ
theorem sp_needF {Δ Δ1 : Nat → Fn} {G : List (Str × D)} (h : Δ i_need = F_need.fn Δ1 G) (c1 : SpNeedStory Δ1) (c2 : SpOpen Δ1) (c3 : NeedAt Δ1 16) : SpNeed Δ := by
  refine ⟨fun r c s ρ hs hd hl hr hc hf => call_rt (ds := [szD r c, stD s]) h rfl ?_ ρ⟩
  have e1 := fun ρ => c1.ok r c s ρ hs hd (by omega) hf
  have e2 := fun ρ => c2 r c s ρ hr hc hl
  have e3 := fun ρ => need_new c3 (opP_len hr hc s) (opP_len hr hc s) ρ
  show Rt 2 _ (denSs Δ1 G B_need [.val (szD r c), .val (stD s)])
  unfold B_need
  simp [denSs, denS, den, dens, denAnd, denOr, denO, denA, denI, denT, denF, setR, ifR, bin2, un1, notD, chain2, andB, orB, iteB, tupR, lstR, consR, consG, datR, sloR, argSl, bltR, isiR, rdv, ixvR, held, isUn, subS, lenvR, lenS, callR, SR.seq, Res.to, B2.den, add_i, sub_i, C2.den, icmp, negD, itR, itsD, e1, e2, e3]
def blF (ps : List Pl) : Option Pl := ps.find? fun p => decide (wst ps p + 1 = N ps)
def plO : Option Pl → D
  | none => .none
  | some p => plD p
def bBl : ISs := .cons (.ifs (.cmp .eq (.bin .add (.call 62 false (.val (.var 2) (.val (.var 4) (.slo 3 .nil)))) (.int 1)) (.call 59 false (.val (.var 2) (.slo 3 .nil)))) (.cons (.ret (.var 4)) .nil) .nil) .nil
structure SpBest (Δ : Nat → Fn) : Prop where
  ok : ∀ (r c : Nat) s ρ, isSz (szD r c) = true → isSt r c (stD s) = true → s.length ≤ 900 → r ≤ 4 → c ≤ 4 → fcs s = none → callD (Δ i_best_look) false [.dat (szD r c), .dat (stD s)] ρ = .ok (plO (blF (opP r c s))) ρ
  cl : ∀ (r c : Nat) s ρ, isSz (szD r c) = true → isSt r c (stD s) = true → s.length ≤ 900 → (fcs s).isSome = true → callD (Δ i_best_look) false [.dat (szD r c), .dat (stD s)] ρ = .exc .clash ρ
theorem sp_best {Δ Δ1 : Nat → Fn} {G : List (Str × D)} (h : Δ i_best_look = F_best_look.fn Δ1 G) (c1 : SpNeedStory Δ1) (c2 : SpOpen Δ1) (c3 : NeedAt Δ1 16) (c4 : WorstAt Δ1 17) : SpBest Δ := by
  refine ⟨fun r c s ρ hs hd hl hr hc hf => call_rt (ds := [szD r c, stD s]) h rfl ?_ ρ, fun r c s ρ hs hd hl hf => call_xc (ds := [szD r c, stD s]) h rfl ?_ ρ⟩
  · have e1 := fun ρ => c1.ok r c s ρ hs hd (by omega) hf
    have e2 := fun ρ => c2 r c s ρ hr hc hl
    have hlen := opP_len hr hc s
    generalize opP r c s = ps at e2 hlen ⊢
    show Rt 2 _ (denSs Δ1 G (.cons _ (.cons (.par 2 3 (.val (.call 64 false (.val (.var 0) (.val (.var 1) .nil))) (.dct .nil))) (.cons (.for_ (.nm 4) (.dat (.var 2)) bBl) (.cons (.ret .non) .nil)))) [.val (szD r c), .val (stD s), .un, .un, .un])
    rw [ss_nx (ρ1 := [.val (szD r c), .val (stD s), .un, .un, .un]) (by simp [denSs, denS, den, dens, denAnd, denOr, denO, denA, denI, denT, denF, setR, ifR, bin2, un1, notD, chain2, andB, orB, iteB, tupR, lstR, consR, consG, datR, sloR, argSl, bltR, isiR, rdv, ixvR, held, isUn, subS, lenvR, lenS, callR, SR.seq, Res.to, B2.den, add_i, sub_i, C2.den, icmp, negD, itR, itsD, e1])]
    rw [ss_nx (ρ1 := [.val (szD r c), .val (stD s), .val (.tuple (plsD ps)), .dic false [], .un]) (by simp [denSs, denS, den, dens, denAnd, denOr, denO, denA, denI, denT, denF, setR, ifR, bin2, un1, notD, chain2, andB, orB, iteB, tupR, lstR, consR, consG, datR, sloR, argSl, bltR, isiR, rdv, ixvR, held, isUn, subS, lenvR, lenS, callR, SR.seq, Res.to, B2.den, add_i, sub_i, C2.den, icmp, negD, itR, itsD, e2, putR, consF, valF, putF, Fl.sl])]
    rw [ss_cons, s_forD (d := .tuple (plsD ps)) (ds := plsD ps) (ρ1 := [.val (szD r c), .val (stD s), .val (.tuple (plsD ps)), .dic false [], .un]) rfl rfl]
    obtain ⟨ρ', ⟨kvs, a4, hi, rfl⟩, ev⟩ := for_find (p := .nm 4) (body := denSs Δ1 G bBl) plD (fun p => decide (wst ps p + 1 = N ps)) plD (fun ρ => ∃ kvs a4, Inv ps kvs ∧ ρ = [.val (szD r c), .val (stD s), .val (.tuple (plsD ps)), .dic false kvs, a4]) ps [.val (szD r c), .val (stD s), .val (.tuple (plsD ps)), .dic false [], .un] ⟨[], _, Inv.nil ps, rfl⟩ (fun p hp ρ hρ => by
      obtain ⟨kvs, a4, hi, rfl⟩ := hρ
      refine ⟨[.val (szD r c), .val (stD s), .val (.tuple (plsD ps)), .dic false kvs, .val (plD p)], rfl, ?_⟩
      obtain ⟨k1, i1, w1⟩ := worst_call c4 hlen (powL_self ps) (by omega) hp hi (ρ := [.val (szD r c), .val (stD s), .val (.tuple (plsD ps)), .dic false kvs, .val (plD p)]) (j := 3) (fx := false) rfl
      obtain ⟨k2, i2, w2⟩ := need_call c3 hlen (powL_self ps) hlen i1 (ρ := [.val (szD r c), .val (stD s), .val (.tuple (plsD ps)), .dic false k1, .val (plD p)]) (j := 3) (fx := false) rfl
      have hb : den Δ1 G (.cmp .eq (.bin .add (.call 62 false (.val (.var 2) (.val (.var 4) (.slo 3 .nil)))) (.int 1)) (.call 59 false (.val (.var 2) (.slo 3 .nil)))) [.val (szD r c), .val (stD s), .val (.tuple (plsD ps)), .dic false kvs, .val (plD p)] = .ok (.bool (decide (wst ps p + 1 = N ps))) [.val (szD r c), .val (stD s), .val (.tuple (plsD ps)), .dic false k2, .val (plD p)] :=
        den_eq (den_bin (o := .add) (y := .int 1) (den_call (ars := [.dat (.tuple (plsD ps)), .dat (plD p), .slo 3]) rfl w1) rfl rfl) (den_call (ars := [.dat (.tuple (plsD ps)), .slo 3]) rfl w2) (eqD_int _ _)
      unfold bBl
      rw [ss_cons, s_if hb]
      cases hq : decide (wst ps p + 1 = N ps) with
      | true => exact ⟨_, rfl, k2, _, i2, rfl⟩
      | false => exact ⟨_, rfl, k2, _, i2, rfl⟩)
    unfold plsD at ev ⊢
    rw [ev]
    show Rt 2 (plO (ps.find? _)) _
    cases hf : ps.find? (fun p => decide (wst ps p + 1 = N ps)) with
    | none => exact Rt.of rfl (by simp)
    | some p => exact Rt.of rfl (by simp)
  · have e1 := fun ρ => c1.cl r c s ρ hs hd (by omega) hf
    show Xc 2 .clash (denSs Δ1 G B_best_look [.val (szD r c), .val (stD s), .un, .un, .un])
    unfold B_best_look
    simp [denSs, denS, den, dens, denAnd, denOr, denO, denA, denI, denT, denF, setR, ifR, bin2, un1, notD, chain2, andB, orB, iteB, tupR, lstR, consR, consG, datR, sloR, argSl, bltR, isiR, rdv, ixvR, held, isUn, subS, lenvR, lenS, callR, SR.seq, Res.to, B2.den, add_i, sub_i, C2.den, icmp, negD, itR, itsD, e1]
def slowF (r c : Nat) (s : List Lk) (p : Pl) : An := if sureL s p then .le else if sureG s p then .gr else if N (wFr (opP r c s) p) ≤ N (wUp (opP r c s) p) then .le else .gr
structure SpSlow (Δ : Nat → Fn) : Prop where
  ok : ∀ (r c : Nat) s p ρ, isSz (szD r c) = true → isSt r c (stD s) = true → s.length ≤ 900 → r ≤ 4 → c ≤ 4 → fcs s = none → fndB s = false → inSz r c p → callD (Δ i_slow_answer) false [.dat (szD r c), .dat (stD s), .dat (plD p)] ρ = .ok (.str (slowF r c s p).s) ρ
  fnd : ∀ (r c : Nat) s p ρ, isSz (szD r c) = true → isSt r c (stD s) = true → s.length ≤ 900 → r ≤ 4 → c ≤ 4 → fcs s = none → fndB s = true → inSz r c p → callD (Δ i_slow_answer) false [.dat (szD r c), .dat (stD s), .dat (plD p)] ρ = .exc .found ρ
  no : ∀ (r c : Nat) s d ρ, isSz (szD r c) = true → isSt r c (stD s) = true → s.length ≤ 900 → r ≤ 4 → c ≤ 4 → fcs s = none → isPl r c d = false → callD (Δ i_slow_answer) false [.dat (szD r c), .dat (stD s), .dat d] ρ = .exc .place ρ
theorem sp_slow {Δ Δ1 : Nat → Fn} {G : List (Str × D)} (h : Δ i_slow_answer = F_slow_answer.fn Δ1 G) (c1 : SpNeedStory Δ1) (c2 : SpNeedPlace Δ1) (c3 : SpFound Δ1) (c4 : SpSureL Δ1) (c5 : SpSureG Δ1) (c6 : SpOpen Δ1) (c7 : NeedAt Δ1 16) (c8 : SpWu Δ1) (c9 : SpWf Δ1) : SpSlow Δ := by
  refine ⟨fun r c s p ρ hs hd hl hr hc hf hfb hp => call_rt (ds := [szD r c, stD s, plD p]) h rfl ?_ ρ, fun r c s p ρ hs hd hl hr hc hf hfb hp => call_xc (ds := [szD r c, stD s, plD p]) h rfl ?_ ρ, fun r c s d ρ hs hd hl hr hc hf hp => call_xc (ds := [szD r c, stD s, d]) h rfl ?_ ρ⟩
  · have e1 := fun ρ => c1.ok r c s ρ hs hd (by omega) hf
    have e2 := fun ρ => c2.ok r c (plD p) ρ (isPl_pl hp)
    have e3 := fun ρ => c3 s ρ (by omega)
    rw [hfb] at e3
    have e4 := fun ρ => c4 s p ρ
    have e5 := fun ρ => c5 s p ρ
    have e6 := fun ρ => c6 r c s ρ hr hc hl
    have hlen := opP_len hr hc s
    show Rt 3 _ (denSs Δ1 G (.cons _ (.cons _ (.cons _ (.cons _ (.cons _ (.cons (.par 3 4 (.val (.call 64 false (.val (.var 0) (.val (.var 1) .nil))) (.dct .nil))) (.cons (.par 5 6 (.val (.call 59 false (.val (.call 60 false (.val (.var 3) (.val (.var 2) .nil))) (.slo 4 .nil))) (.val (.call 59 false (.val (.call 61 false (.val (.var 3) (.val (.var 2) .nil))) (.slo 4 .nil))) .nil))) (.cons (.ret (.ite (.cmp .ge (.var 5) (.var 6)) (.str "less") (.str "greater"))) .nil)))))))) [.val (szD r c), .val (stD s), .val (plD p), .un, .un, .un, .un])
    unfold slowF
    rw [ss_nx (ρ1 := [.val (szD r c), .val (stD s), .val (plD p), .un, .un, .un, .un]) (by simp [denSs, denS, den, dens, denAnd, denOr, denO, denA, denI, denT, denF, setR, ifR, bin2, un1, notD, chain2, andB, orB, iteB, tupR, lstR, consR, consG, datR, sloR, argSl, bltR, isiR, rdv, ixvR, held, isUn, subS, lenvR, lenS, callR, SR.seq, Res.to, B2.den, add_i, sub_i, C2.den, icmp, negD, itR, itsD, e1])]
    rw [ss_nx (ρ1 := [.val (szD r c), .val (stD s), .val (plD p), .un, .un, .un, .un]) (by simp [denSs, denS, den, dens, denAnd, denOr, denO, denA, denI, denT, denF, setR, ifR, bin2, un1, notD, chain2, andB, orB, iteB, tupR, lstR, consR, consG, datR, sloR, argSl, bltR, isiR, rdv, ixvR, held, isUn, subS, lenvR, lenS, callR, SR.seq, Res.to, B2.den, add_i, sub_i, C2.den, icmp, negD, itR, itsD, e2])]
    rw [ss_nx (ρ1 := [.val (szD r c), .val (stD s), .val (plD p), .un, .un, .un, .un]) (by simp [denSs, denS, den, dens, denAnd, denOr, denO, denA, denI, denT, denF, setR, ifR, bin2, un1, notD, chain2, andB, orB, iteB, tupR, lstR, consR, consG, datR, sloR, argSl, bltR, isiR, rdv, ixvR, held, isUn, subS, lenvR, lenS, callR, SR.seq, Res.to, B2.den, add_i, sub_i, C2.den, icmp, negD, itR, itsD, e3])]
    cases h4 : sureL s p with
    | true =>
      rw [h4] at e4
      rw [ss_rt (ρ1 := [.val (szD r c), .val (stD s), .val (plD p), .un, .un, .un, .un]) (d := .str "less") (by simp [denSs, denS, den, dens, denAnd, denOr, denO, denA, denI, denT, denF, setR, ifR, bin2, un1, notD, chain2, andB, orB, iteB, tupR, lstR, consR, consG, datR, sloR, argSl, bltR, isiR, rdv, ixvR, held, isUn, subS, lenvR, lenS, callR, SR.seq, Res.to, B2.den, add_i, sub_i, C2.den, icmp, negD, itR, itsD, e4])]
      exact Rt.of rfl (by simp)
    | false =>
      rw [h4] at e4
      rw [ss_nx (ρ1 := [.val (szD r c), .val (stD s), .val (plD p), .un, .un, .un, .un]) (by simp [denSs, denS, den, dens, denAnd, denOr, denO, denA, denI, denT, denF, setR, ifR, bin2, un1, notD, chain2, andB, orB, iteB, tupR, lstR, consR, consG, datR, sloR, argSl, bltR, isiR, rdv, ixvR, held, isUn, subS, lenvR, lenS, callR, SR.seq, Res.to, B2.den, add_i, sub_i, C2.den, icmp, negD, itR, itsD, e4])]
      cases h5 : sureG s p with
      | true =>
        rw [h5] at e5
        rw [ss_rt (ρ1 := [.val (szD r c), .val (stD s), .val (plD p), .un, .un, .un, .un]) (d := .str "greater") (by simp [denSs, denS, den, dens, denAnd, denOr, denO, denA, denI, denT, denF, setR, ifR, bin2, un1, notD, chain2, andB, orB, iteB, tupR, lstR, consR, consG, datR, sloR, argSl, bltR, isiR, rdv, ixvR, held, isUn, subS, lenvR, lenS, callR, SR.seq, Res.to, B2.den, add_i, sub_i, C2.den, icmp, negD, itR, itsD, e5])]
        exact Rt.of rfl (by simp)
      | false =>
        rw [h5] at e5
        rw [ss_nx (ρ1 := [.val (szD r c), .val (stD s), .val (plD p), .un, .un, .un, .un]) (by simp [denSs, denS, den, dens, denAnd, denOr, denO, denA, denI, denT, denF, setR, ifR, bin2, un1, notD, chain2, andB, orB, iteB, tupR, lstR, consR, consG, datR, sloR, argSl, bltR, isiR, rdv, ixvR, held, isUn, subS, lenvR, lenS, callR, SR.seq, Res.to, B2.den, add_i, sub_i, C2.den, icmp, negD, itR, itsD, e5])]
        generalize opP r c s = ps at e6 hlen ⊢
        rw [ss_nx (ρ1 := [.val (szD r c), .val (stD s), .val (plD p), .val (.tuple (plsD ps)), .dic false [], .un, .un]) (by simp [denSs, denS, den, dens, denAnd, denOr, denO, denA, denI, denT, denF, setR, ifR, bin2, un1, notD, chain2, andB, orB, iteB, tupR, lstR, consR, consG, datR, sloR, argSl, bltR, isiR, rdv, ixvR, held, isUn, subS, lenvR, lenS, callR, SR.seq, Res.to, B2.den, add_i, sub_i, C2.den, icmp, negD, itR, itsD, e6, putR, consF, valF, putF, Fl.sl])]
        have l1 : (wUp ps p).length ≤ 16 := Nat.le_trans (List.length_filter_le _ _) hlen
        have l2 : (wFr ps p).length ≤ 16 := Nat.le_trans (List.length_filter_le _ _) hlen
        have e8 := c8 ps p [.val (szD r c), .val (stD s), .val (plD p), .val (.tuple (plsD ps)), .dic false [], .un, .un] (by omega)
        obtain ⟨k1, i1, w1⟩ := need_call c7 (ps := wUp ps p) hlen (powL_filter _ (powL_self ps)) l1 (Inv.nil ps) (ρ := [.val (szD r c), .val (stD s), .val (plD p), .val (.tuple (plsD ps)), .dic false [], .un, .un]) (j := 4) (fx := false) rfl
        have e9 := c9 ps p [.val (szD r c), .val (stD s), .val (plD p), .val (.tuple (plsD ps)), .dic false k1, .un, .un] (by omega)
        obtain ⟨k2, i2, w2⟩ := need_call c7 (ps := wFr ps p) hlen (powL_filter _ (powL_self ps)) l2 i1 (ρ := [.val (szD r c), .val (stD s), .val (plD p), .val (.tuple (plsD ps)), .dic false k1, .un, .un]) (j := 4) (fx := false) rfl
        simp only [List.set_cons_succ, List.set_cons_zero] at w1 w2
        rw [ss_nx (ρ1 := [.val (szD r c), .val (stD s), .val (plD p), .val (.tuple (plsD ps)), .dic false k2, .val (.int (N (wUp ps p))), .val (.int (N (wFr ps p)))]) (by simp [denSs, denS, den, dens, denAnd, denOr, denO, denA, denI, denT, denF, setR, ifR, bin2, un1, notD, chain2, andB, orB, iteB, tupR, lstR, consR, consG, datR, sloR, argSl, bltR, isiR, rdv, ixvR, held, isUn, subS, lenvR, lenS, callR, SR.seq, Res.to, B2.den, add_i, sub_i, C2.den, icmp, negD, itR, itsD, e8, w1, e9, w2, putR, consF, valF, putF, Fl.sl])]
        by_cases hge : N (wFr ps p) ≤ N (wUp ps p)
        · rw [ss_rt (ρ1 := [.val (szD r c), .val (stD s), .val (plD p), .val (.tuple (plsD ps)), .dic false k2, .val (.int (N (wUp ps p))), .val (.int (N (wFr ps p)))]) (d := .str "less") (by simp [denSs, denS, den, dens, denAnd, denOr, denO, denA, denI, denT, denF, setR, ifR, bin2, un1, notD, chain2, andB, orB, iteB, tupR, lstR, consR, consG, datR, sloR, argSl, bltR, isiR, rdv, ixvR, held, isUn, subS, lenvR, lenS, callR, SR.seq, Res.to, B2.den, add_i, sub_i, C2.den, icmp, negD, itR, itsD, hge])]
          simp only [hge, if_true, Bool.false_eq_true, if_false]
          exact Rt.of rfl (by simp)
        · rw [ss_rt (ρ1 := [.val (szD r c), .val (stD s), .val (plD p), .val (.tuple (plsD ps)), .dic false k2, .val (.int (N (wUp ps p))), .val (.int (N (wFr ps p)))]) (d := .str "greater") (by simp [denSs, denS, den, dens, denAnd, denOr, denO, denA, denI, denT, denF, setR, ifR, bin2, un1, notD, chain2, andB, orB, iteB, tupR, lstR, consR, consG, datR, sloR, argSl, bltR, isiR, rdv, ixvR, held, isUn, subS, lenvR, lenS, callR, SR.seq, Res.to, B2.den, add_i, sub_i, C2.den, icmp, negD, itR, itsD, hge])]
          simp only [hge, Bool.false_eq_true, if_false]
          exact Rt.of rfl (by simp)
  · have e1 := fun ρ => c1.ok r c s ρ hs hd (by omega) hf
    have e2 := fun ρ => c2.ok r c (plD p) ρ (isPl_pl hp)
    have e3 := fun ρ => c3 s ρ (by omega)
    rw [hfb] at e3
    show Xc 3 .found (denSs Δ1 G B_slow_answer [.val (szD r c), .val (stD s), .val (plD p), .un, .un, .un, .un])
    unfold B_slow_answer
    simp [denSs, denS, den, dens, denAnd, denOr, denO, denA, denI, denT, denF, setR, ifR, bin2, un1, notD, chain2, andB, orB, iteB, tupR, lstR, consR, consG, datR, sloR, argSl, bltR, isiR, rdv, ixvR, held, isUn, subS, lenvR, lenS, callR, SR.seq, Res.to, B2.den, add_i, sub_i, C2.den, icmp, negD, itR, itsD, e1, e2, e3]
  · have e1 := fun ρ => c1.ok r c s ρ hs hd (by omega) hf
    have e2 := fun ρ => c2.no r c d ρ hp
    show Xc 3 .place (denSs Δ1 G B_slow_answer [.val (szD r c), .val (stD s), .val d, .un, .un, .un, .un])
    unfold B_slow_answer
    simp [denSs, denS, den, dens, denAnd, denOr, denO, denA, denI, denT, denF, setR, ifR, bin2, un1, notD, chain2, andB, orB, iteB, tupR, lstR, consR, consG, datR, sloR, argSl, bltR, isiR, rdv, ixvR, held, isUn, subS, lenvR, lenS, callR, SR.seq, Res.to, B2.den, add_i, sub_i, C2.den, icmp, negD, itR, itsD, e1, e2]
end Dm
namespace Dm
open PySem PySem.Spec PyProof.Rows L2 LamX
/-! ### sorted ints -/
def leI (a b : Int) : Bool := decide (a ≤ b)
theorem dle_int (a b : Int) : dle (.int a) (.int b) = leI a b := by
  show (!PyProof.Rows.lexLt PyProof.Rows.itemOrd [.inl b] [.inl a]) = decide (a ≤ b)
  by_cases h : b = a
  · subst h
    rw [PyProof.Rows.lex_self (O := PyProof.Rows.itemOrd)]
    simp [PyProof.Rows.lexLt]
  · rw [PyProof.Rows.lex_diff (O := PyProof.Rows.itemOrd) (fun z => h (Sum.inl.inj z))]
    show (!decide (b < a)) = decide (a ≤ b)
    by_cases h2 : b < a
    · rw [decide_eq_true h2, decide_eq_false (by omega)]; rfl
    · rw [decide_eq_false h2, decide_eq_true (by omega)]; rfl
def isort (xs : List Int) : List Int := xs.mergeSort leI
theorem isort_perm (xs : List Int) : (isort xs).Perm xs := List.mergeSort_perm xs leI
theorem isort_pw (xs : List Int) : (isort xs).Pairwise fun a b => a ≤ b := by
  have := List.pairwise_mergeSort (le := leI) (fun a b c h1 h2 => by unfold leI at *; simp at *; omega) (fun a b => by unfold leI; simp; omega) xs
  exact this.imp fun h => of_decide_eq_true h
theorem sortable_ints (xs : List Int) : sortable (xs.map PyData.int) = true := by
  unfold sortable
  simp only [Bool.and_eq_true, Bool.or_eq_true, List.all_map, List.all_eq_true, Function.comp]
  refine ⟨⟨.inr fun x _ => rfl, fun x _ y _ => rfl⟩, fun x _ => ?_⟩
  simp [PyData.depth]
theorem sorted_ints (xs : List Int) : Bt.sorted.den [.list (xs.map PyData.int)] = some (.list ((isort xs).map PyData.int)) := by
  show (if sortable _ = true then some (PyData.list (msortF dle _ _)) else none) = _
  rw [if_pos (sortable_ints xs), msortF_eq _ _ (Nat.le_refl _)]
  congr 2
  exact (List.map_mergeSort (r := leI) (s := dle) (f := PyData.int) (l := xs) fun a _ b _ => (dle_int a b).symm).symm
def entsL (r c : Nat) (e : Nat → Nat → Int) : List Int := (allP r c).map fun p => e p.1 p.2
def entS (r c : Nat) (e : Nat → Nat → Int) : List Int := isort (entsL r c e)
theorem entS_len (r c : Nat) (e : Nat → Nat → Int) : (entS r c e).length = r * c := by
  unfold entS
  rw [(isort_perm _).length_eq]
  unfold entsL
  rw [List.length_map]
  induction r with
  | zero => simp [allP]
  | succ r ih =>
    unfold allP at ih ⊢
    rw [List.range_succ, List.flatMap_append, List.length_append, ih, Nat.succ_mul]
    simp
def SpEntriesOf (Δ : Nat → Fn) : Prop := ∀ (r c : Nat) e ρ, 1 ≤ r → r ≤ 4 → c ≤ 4 → callD (Δ i_entries_of) false [.dat (tbD r c e)] ρ = .ok (.list ((entS r c e).map PyData.int)) ρ
theorem sp_entriesof {Δ Δ1 : Nat → Fn} {G : List (Str × D)} (h : Δ i_entries_of = F_entries_of.fn Δ1 G) (c3 : SpSizeOf Δ1) (c4 : SpPlaces Δ1) (c5 : SpAt Δ1) : SpEntriesOf Δ := fun r c e ρ hr hr4 hc => by
  refine call_rt (ds := [tbD r c e]) h rfl ?_ ρ
  show Rt 1 _ (denSs Δ1 G (.cons (.ret (.blt .sorted (.cons (.comp (.nm 1) [("place", 1)] (.dat (.call 19 false (.val (.call 18 false (.val (.var 0) .nil)) .nil))) .yes (.call 20 false (.val (.var 0) (.val (.var 1) .nil)))) .nil))) .nil) [.val (tbD r c e), .un])
  rw [ss_rt (s_ret (ρ1 := [.val (tbD r c e), .un]) (den_blt (dens_cons (x := .list ((entsL r c e).map PyData.int)) (ρ1 := [.val (tbD r c e), .un]) ?h1 dens_nil) (sorted_ints _)))]
  · exact Rt.of rfl (by simp)
  case h1 =>
    have : (entsL r c e).map PyData.int = (allP r c).map fun p => .int (e p.1 p.2) := by unfold entsL; rw [List.map_map]; rfl
    rw [this]
    refine comp_nm (allP r c) plD _ rfl ?_ (allP_len r c (by omega) (by omega)) (fun p hp => ?_)
    · show (itR _) _ = _
      unfold itR
      have e3 := c3 r c e [.val (tbD r c e), .un] hr
      have e4 := c4 r c [.val (tbD r c e), .un] hr4 hc
      rw [den_call (ars := [.dat (szD r c)]) (ρ1 := [.val (tbD r c e), .un]) (by simp [denSs, denS, den, dens, denAnd, denOr, denO, denA, denI, denT, denF, setR, ifR, bin2, un1, notD, chain2, andB, orB, iteB, tupR, lstR, consR, consG, datR, sloR, argSl, bltR, isiR, rdv, ixvR, held, isUn, subS, lenvR, lenS, callR, SR.seq, Res.to, B2.den, add_i, sub_i, C2.den, icmp, negD, itR, itsD, e3]) e4]
      rfl
    · exact den_call (ars := [.dat (tbD r c e), .dat (plD p)]) rfl (c5 r c e p _ (mem_allP.mp hp))
def cntL (xs : List Int) (x : Int) : Nat := (xs.filter fun y => decide (y < x)).length
structure SpCountLess (Δ : Nat → Fn) : Prop where
  ok : ∀ (r c : Nat) e (x : Int) ρ, 1 ≤ r → r ≤ 4 → c ≤ 4 → isTab (tbD r c e) = true → isWh (.int x) (-999) 999 = true → callD (Δ i_count_less) false [.dat (tbD r c e), .dat (.int x)] ρ = .ok (.int (cntL (entS r c e) x)) ρ
  no : ∀ d y ρ, isTab d = true → isWh y (-999) 999 = false → callD (Δ i_count_less) false [.dat d, .dat y] ρ = .exc .number ρ
theorem sp_countless {Δ Δ1 : Nat → Fn} {G : List (Str × D)} (h : Δ i_count_less = F_count_less.fn Δ1 G) (c1 : SpNeedTable Δ1) (c2 : SpNeedNumber Δ1) (c3 : SpEntriesOf Δ1) : SpCountLess Δ := by
  refine ⟨fun r c e x ρ hr hr4 hc ht hx => call_rt (ds := [tbD r c e, .int x]) h rfl ?_ ρ, fun d y ρ ht hx => call_xc (ds := [d, y]) h rfl ?_ ρ⟩
  · have e1 := fun ρ => c1.ok (tbD r c e) ρ ht
    have e2 := fun ρ => c2.ok (.int x) ρ hx
    show Rt 2 _ (denSs Δ1 G (.cons _ (.cons _ (.cons (.ret (.blt .len (.cons (.comp (.nm 2) [("one", 2)] (.dat (.call 22 false (.val (.var 0) .nil))) (.tst (.cmp .lt (.var 2) (.var 1))) (.var 2)) .nil))) .nil))) [.val (tbD r c e), .val (.int x), .un])
    rw [ss_nx (ρ1 := [.val (tbD r c e), .val (.int x), .un]) (by simp [denSs, denS, den, dens, denAnd, denOr, denO, denA, denI, denT, denF, setR, ifR, bin2, un1, notD, chain2, andB, orB, iteB, tupR, lstR, consR, consG, datR, sloR, argSl, bltR, isiR, rdv, ixvR, held, isUn, subS, lenvR, lenS, callR, SR.seq, Res.to, B2.den, add_i, sub_i, C2.den, icmp, negD, itR, itsD, e1])]
    rw [ss_nx (ρ1 := [.val (tbD r c e), .val (.int x), .un]) (by simp [denSs, denS, den, dens, denAnd, denOr, denO, denA, denI, denT, denF, setR, ifR, bin2, un1, notD, chain2, andB, orB, iteB, tupR, lstR, consR, consG, datR, sloR, argSl, bltR, isiR, rdv, ixvR, held, isUn, subS, lenvR, lenS, callR, SR.seq, Res.to, B2.den, add_i, sub_i, C2.den, icmp, negD, itR, itsD, e2])]
    rw [ss_rt (s_ret (ρ1 := [.val (tbD r c e), .val (.int x), .un]) (den_blt (dens_cons (x := .list (((entS r c e).filter fun y => decide (y < x)).map PyData.int)) (ρ1 := [.val (tbD r c e), .val (.int x), .un]) ?h1 dens_nil) rfl))]
    · exact Rt.of (by rw [List.length_map]; rfl) (by simp)
    case h1 =>
      refine comp_nmF (entS r c e) PyData.int PyData.int (fun y => decide (y < x)) rfl ?_ ?_ (fun y hy => rfl) (fun p hp hq => rfl)
      · show (itR _) _ = _
        unfold itR
        rw [den_call (ars := [.dat (tbD r c e)]) rfl (c3 r c e _ hr hr4 hc)]
        rfl
      · rw [entS_len]; exact Nat.le_trans (Nat.mul_le_mul hr4 hc) (by decide)
  · have e1 := fun ρ => c1.ok d ρ ht
    have e2 := fun ρ => c2.no y ρ hx
    show Xc 2 .number (denSs Δ1 G B_count_less [.val d, .val y, .un])
    unfold B_count_less
    simp [denSs, denS, den, dens, denAnd, denOr, denO, denA, denI, denT, denF, setR, ifR, bin2, un1, notD, chain2, andB, orB, iteB, tupR, lstR, consR, consG, datR, sloR, argSl, bltR, isiR, rdv, ixvR, held, isUn, subS, lenvR, lenS, callR, SR.seq, Res.to, B2.den, add_i, sub_i, C2.den, icmp, negD, itR, itsD, e1, e2]
structure SpKth (Δ : Nat → Fn) : Prop where
  ok : ∀ (r c : Nat) e (k : Nat) ρ, 1 ≤ r → r ≤ 4 → c ≤ 4 → isTab (tbD r c e) = true → 1 ≤ k → k ≤ r * c → callD (Δ i_kth) false [.dat (tbD r c e), .dat (.int k)] ρ = .ok (.int ((entS r c e).getD (k - 1) 0)) ρ
  no : ∀ (r c : Nat) e y ρ, 1 ≤ r → r ≤ 4 → c ≤ 4 → isTab (tbD r c e) = true → isWh y 1 ((r * c : Nat) : Int) = false → callD (Δ i_kth) false [.dat (tbD r c e), .dat y] ρ = .exc .count ρ
theorem ints_at (xs : List Int) {i : Nat} (h : i < xs.length) : ixD (.list (xs.map PyData.int)) (.int (i : Int)) = some (.int (xs.getD i 0)) := by
  show atI _ _ = _
  rw [atI_nat, List.getElem?_map, List.getElem?_eq_getElem h]
  simp [List.getD, List.getElem?_eq_getElem h]
theorem sp_kth {Δ Δ1 : Nat → Fn} {G : List (Str × D)} (h : Δ i_kth = F_kth.fn Δ1 G) (c1 : SpNeedTable Δ1) (c2 : SpEntriesOf Δ1) (c3 : SpWhole Δ1) : SpKth Δ := by
  refine ⟨fun r c e k ρ hr hr4 hc ht hk1 hk => call_rt (ds := [tbD r c e, .int k]) h rfl ?_ ρ, fun r c e y ρ hr hr4 hc ht hy => call_xc (ds := [tbD r c e, y]) h rfl ?_ ρ⟩
  · have e1 := fun ρ => c1.ok (tbD r c e) ρ ht
    have e2 := fun ρ => c2 r c e ρ hr hr4 hc
    have e3 := c3 (.int k) 1 ((r * c : Nat) : Int)
    have hw : isWh (.int k) 1 ((r * c : Nat) : Int) = true := by
      show (decide ((1 : Int) ≤ k) && decide ((k : Int) ≤ ((r * c : Nat) : Int))) = true
      rw [decide_eq_true (by omega), decide_eq_true (by omega)]; rfl
    rw [hw] at e3
    have e4 := ints_at (entS r c e) (show k - 1 < (entS r c e).length by rw [entS_len]; omega)
    have hl := entS_len r c e
    generalize entS r c e = xs at *
    rw [show ((k - 1 : Nat) : Int) = (k : Int) - 1 by omega] at e4
    show Rt 2 _ (denSs Δ1 G B_kth [.val (tbD r c e), .val (.int k), .un])
    unfold B_kth
    rw [ss_nx (ρ1 := [.val (tbD r c e), .val (.int k), .un]) (by simp [denSs, denS, den, dens, denAnd, denOr, denO, denA, denI, denT, denF, setR, ifR, bin2, un1, notD, chain2, andB, orB, iteB, tupR, lstR, consR, consG, datR, sloR, argSl, bltR, isiR, rdv, ixvR, held, isUn, subS, lenvR, lenS, callR, SR.seq, Res.to, B2.den, add_i, sub_i, C2.den, icmp, negD, itR, itsD, e1])]
    rw [ss_nx (ρ1 := [.val (tbD r c e), .val (.int k), .val (.list (xs.map PyData.int))]) (by simp [denSs, denS, den, dens, denAnd, denOr, denO, denA, denI, denT, denF, setR, ifR, bin2, un1, notD, chain2, andB, orB, iteB, tupR, lstR, consR, consG, datR, sloR, argSl, bltR, isiR, rdv, ixvR, held, isUn, subS, lenvR, lenS, callR, SR.seq, Res.to, B2.den, add_i, sub_i, C2.den, icmp, negD, itR, itsD, e2])]
    rw [ss_nx (s_if_f (ρ1 := [.val (tbD r c e), .val (.int k), .val (.list (xs.map PyData.int))]) (den_not (v := true) (den_call (ars := [.dat (.int k), .dat (.int 1), .dat (.int ((r * c : Nat) : Int))]) ?h1 (e3 _))))]
    case h1 => rw [← hl]; simp [denSs, denS, den, dens, denAnd, denOr, denO, denA, denI, denT, denF, setR, ifR, bin2, un1, notD, chain2, andB, orB, iteB, tupR, lstR, consR, consG, datR, sloR, argSl, bltR, isiR, rdv, ixvR, held, isUn, subS, lenvR, lenS, callR, SR.seq, Res.to, B2.den, add_i, sub_i, C2.den, icmp, negD, itR, itsD]
    rw [ss_rt (s_ret (ρ1 := [.val (tbD r c e), .val (.int k), .val (.list (xs.map PyData.int))]) (den_ixv (d0 := .list (xs.map PyData.int)) (den_bin (den_var rfl) rfl rfl) rfl rfl e4))]
    exact Rt.of rfl (by simp)
  · have e1 := fun ρ => c1.ok (tbD r c e) ρ ht
    have e2 := fun ρ => c2 r c e ρ hr hr4 hc
    have e3 := c3 y 1 ((r * c : Nat) : Int)
    rw [hy] at e3
    have hl := entS_len r c e
    generalize entS r c e = xs at *
    show Xc 2 .count (denSs Δ1 G B_kth [.val (tbD r c e), .val y, .un])
    unfold B_kth
    rw [ss_nx (ρ1 := [.val (tbD r c e), .val y, .un]) (by simp [denSs, denS, den, dens, denAnd, denOr, denO, denA, denI, denT, denF, setR, ifR, bin2, un1, notD, chain2, andB, orB, iteB, tupR, lstR, consR, consG, datR, sloR, argSl, bltR, isiR, rdv, ixvR, held, isUn, subS, lenvR, lenS, callR, SR.seq, Res.to, B2.den, add_i, sub_i, C2.den, icmp, negD, itR, itsD, e1])]
    rw [ss_nx (ρ1 := [.val (tbD r c e), .val y, .val (.list (xs.map PyData.int))]) (by simp [denSs, denS, den, dens, denAnd, denOr, denO, denA, denI, denT, denF, setR, ifR, bin2, un1, notD, chain2, andB, orB, iteB, tupR, lstR, consR, consG, datR, sloR, argSl, bltR, isiR, rdv, ixvR, held, isUn, subS, lenvR, lenS, callR, SR.seq, Res.to, B2.den, add_i, sub_i, C2.den, icmp, negD, itR, itsD, e2])]
    rw [ss_cons, s_if_t (ρ1 := [.val (tbD r c e), .val y, .val (.list (xs.map PyData.int))]) (den_not (v := false) (den_call (ars := [.dat y, .dat (.int 1), .dat (.int ((r * c : Nat) : Int))]) ?h1 (e3 _)))]
    · exact ⟨_, rfl, by simp⟩
    case h1 => rw [← hl]; simp [denSs, denS, den, dens, denAnd, denOr, denO, denA, denI, denT, denF, setR, ifR, bin2, un1, notD, chain2, andB, orB, iteB, tupR, lstR, consR, consG, datR, sloR, argSl, bltR, isiR, rdv, ixvR, held, isUn, subS, lenvR, lenS, callR, SR.seq, Res.to, B2.den, add_i, sub_i, C2.den, icmp, negD, itR, itsD]
/-! ### sorted entries -/
theorem pw_get {xs : List Int} (h : xs.Pairwise fun a b => a ≤ b) {i j : Nat} (hij : i ≤ j) (hj : j < xs.length) : xs.getD i 0 ≤ xs.getD j 0 := by
  rcases Nat.lt_or_ge i j with h1 | h1
  · have := List.pairwise_iff_getElem.mp h i j (by omega) hj h1
    simpa [List.getD, List.getElem?_eq_getElem (show i < xs.length by omega), List.getElem?_eq_getElem hj] using this
  · rw [show i = j by omega]; exact Int.le_refl _
theorem getD_mem {xs : List Int} {i : Nat} (h : i < xs.length) : xs.getD i 0 ∈ xs := by
  simp [List.getD, List.getElem?_eq_getElem h]
theorem mem_getD {xs : List Int} {x : Int} (h : x ∈ xs) : ∃ i, i < xs.length ∧ xs.getD i 0 = x := by
  obtain ⟨i, hi, rfl⟩ := List.getElem_of_mem h
  exact ⟨i, hi, by simp [List.getD, List.getElem?_eq_getElem hi]⟩
theorem cnt_le {xs : List Int} (h : xs.Pairwise fun a b => a ≤ b) {k : Nat} (hk : k < xs.length) : cntL xs (xs.getD k 0) ≤ k := by
  unfold cntL
  rw [← List.take_append_drop k xs, List.filter_append, List.length_append]
  rw [List.take_append_drop]
  have : (xs.drop k).filter (fun y => decide (y < xs.getD k 0)) = [] := by
    rw [List.filter_eq_nil_iff]
    intro y hy
    obtain ⟨i, hi, rfl⟩ := List.getElem_of_mem hy
    rw [List.getElem_drop]
    have hi' : k + i < xs.length := by simpa [Nat.lt_sub_iff_add_lt, Nat.add_comm] using hi
    have := pw_get h (show k ≤ k + i by omega) hi'
    simp only [List.getD, List.getElem?_eq_getElem hi', Option.getD_some] at this
    intro z
    have z := of_decide_eq_true z
    simp only [List.getD] at z
    omega
  rw [this]
  have h2 := List.length_filter_le (fun y => decide (y < xs.getD k 0)) (xs.take k)
  have h3 : (xs.take k).length ≤ k := List.length_take_le _ _
  simp only [List.length_nil]
  omega
theorem cnt_ge {xs : List Int} (h : xs.Pairwise fun a b => a ≤ b) {k : Nat} (hk : k < xs.length) : k + 1 ≤ cntL xs (xs.getD k 0 + 1) := by
  unfold cntL
  have e : xs = xs.take (k + 1) ++ xs.drop (k + 1) := (List.take_append_drop _ _).symm
  have : (xs.take (k + 1)).filter (fun y => decide (y < xs.getD k 0 + 1)) = xs.take (k + 1) := by
    rw [List.filter_eq_self]
    intro y hy
    obtain ⟨i, hi, rfl⟩ := List.getElem_of_mem hy
    rw [List.getElem_take]
    have hi1 : i < k + 1 ∧ i < xs.length := by simpa [Nat.lt_min] using hi
    have := pw_get h (show i ≤ k by omega) hk
    simp only [List.getD, List.getElem?_eq_getElem hi1.2, Option.getD_some] at this
    refine decide_eq_true ?_
    simp only [List.getD]
    omega
  conv => rhs; rw [e]
  rw [List.filter_append, List.length_append, List.take_append_drop, this, List.length_take]
  omega
section
variable {r c : Nat} {e : Nat → Nat → Int} (h : Rising r c e) (hr : 1 ≤ r) (hc : 1 ≤ c)
include h hr hc
theorem ent_first : (entS r c e).getD 0 0 = e 0 0 := by
  have hl := entS_len r c e
  have hpos : 0 < (entS r c e).length := by rw [hl]; exact Nat.mul_pos hr hc
  have m1 : e 0 0 ∈ entS r c e := (isort_perm _).mem_iff.mpr (List.mem_map.mpr ⟨(0, 0), mem_allP.mpr ⟨hr, hc⟩, rfl⟩)
  obtain ⟨i, hi, h1⟩ := mem_getD m1
  have h2 := pw_get (isort_pw (entsL r c e)) (Nat.zero_le i) hi
  obtain ⟨p, hp, h3⟩ := List.mem_map.mp ((isort_perm _).mem_iff.mp (getD_mem hpos))
  have h4 := (mono h (p := (0, 0)) (q := p) (mem_allP.mp hp) (up_iff.mpr ⟨Nat.zero_le _, Nat.zero_le _⟩)).1
  have h3 : e p.1 p.2 = (entS r c e).getD 0 0 := h3
  have h2 : (entS r c e).getD 0 0 ≤ (entS r c e).getD i 0 := h2
  have h4 : e 0 0 ≤ e p.1 p.2 := h4
  omega
theorem ent_lastS : (entS r c e).getD (r * c - 1) 0 = e (r - 1) (c - 1) := by
  have hl := entS_len r c e
  have hpos : 0 < r * c := Nat.mul_pos hr hc
  have m1 : e (r - 1) (c - 1) ∈ entS r c e := (isort_perm _).mem_iff.mpr (List.mem_map.mpr ⟨(r - 1, c - 1), mem_allP.mpr ⟨by dsimp; omega, by dsimp; omega⟩, rfl⟩)
  obtain ⟨i, hi, h1⟩ := mem_getD m1
  have h2 := pw_get (isort_pw (entsL r c e)) (show i ≤ r * c - 1 by rw [hl] at hi; omega) (by unfold entS at hl; rw [hl]; omega)
  obtain ⟨p, hp, h3⟩ := List.mem_map.mp ((isort_perm _).mem_iff.mp (getD_mem (show r * c - 1 < (isort (entsL r c e)).length by unfold entS at hl; rw [hl]; omega)))
  have hp' := mem_allP.mp hp
  have h4 := (mono h (p := p) (q := (r - 1, c - 1)) ⟨by dsimp; omega, by dsimp; omega⟩ (up_iff.mpr ⟨by have := hp'.1; dsimp; omega, by have := hp'.2; dsimp; omega⟩)).1
  have h3 : e p.1 p.2 = (entS r c e).getD (r * c - 1) 0 := h3
  have h2 : (entS r c e).getD i 0 ≤ (entS r c e).getD (r * c - 1) 0 := h2
  have h4 : e p.1 p.2 ≤ e (r - 1) (c - 1) := h4
  omega
end
end Dm
namespace Dm
open PySem PySem.Spec PyProof.Rows L2 LamX
/-! ### what a look leaves -/
theorem fcs_app {s : List Lk} {l : Lk} : fcs (s ++ [l]) = none ↔ fcs s = none ∧ ∀ b ∈ s, clB l b = false ∧ clB b l = false := by
  rw [fcs_iff, fcs_iff]
  constructor
  · intro h
    refine ⟨fun a ha b hb => h a (List.mem_append_left _ ha) b (List.mem_append_left _ hb), fun b hb => ⟨h l (by simp) b (List.mem_append_left _ hb), h b (List.mem_append_left _ hb) l (by simp)⟩⟩
  · rintro ⟨h1, h2⟩ a ha b hb
    rcases List.mem_append.mp ha with ha | ha <;> rcases List.mem_append.mp hb with hb | hb
    · exact h1 a ha b hb
    · rw [List.mem_singleton.mp hb]; exact (h2 a ha).2
    · rw [List.mem_singleton.mp ha]; exact (h2 b hb).1
    · rw [List.mem_singleton.mp ha, List.mem_singleton.mp hb]; exact clB_self _
section
variable {s : List Lk} {p q : Pl}
theorem okMore_app {l : Lk} (h : fcs (s ++ [l]) = none) : okMore (s ++ [l]) q = (okMore s q && (!clB (q, .eq) l && !clB l (q, .eq))) := by
  have hs := (fcs_app.mp h).1
  rw [Bool.eq_iff_iff]
  simp only [Bool.and_eq_true, Bool.not_eq_true', okMore_iff, fcs_app (l := (q, An.eq))]
  constructor
  · rintro ⟨_, h2⟩
    exact ⟨⟨hs, fun b hb => h2 b (List.mem_append_left _ hb)⟩, h2 l (by simp)⟩
  · rintro ⟨⟨_, h2⟩, h3⟩
    refine ⟨h, fun b hb => ?_⟩
    rcases List.mem_append.mp hb with hb | hb
    · exact h2 b hb
    · rw [List.mem_singleton.mp hb]; exact h3
theorem cl_eq_le : clB (q, An.eq) (p, An.le) = false := rfl
theorem cl_eq_gr : clB (q, An.eq) (p, An.gr) = false := rfl
theorem cl_le_eq : clB (p, An.le) (q, An.eq) = upTo q p := by simp [clB]
theorem cl_gr_eq : clB (p, An.gr) (q, An.eq) = upTo p q := by simp [clB]
theorem left_le {r c : Nat} (h : fcs (s ++ [(p, .le)]) = none) : leftP r c (s ++ [(p, .le)]) = wUp (leftP r c s) p := by
  unfold leftP wUp
  rw [List.filter_filter]
  refine List.filter_congr fun q _ => ?_
  rw [okMore_app h, cl_eq_le, cl_le_eq, Bool.and_comm]
  simp
theorem left_gr {r c : Nat} (h : fcs (s ++ [(p, .gr)]) = none) : leftP r c (s ++ [(p, .gr)]) = wFr (leftP r c s) p := by
  unfold leftP wFr
  rw [List.filter_filter]
  refine List.filter_congr fun q _ => ?_
  rw [okMore_app h, cl_eq_gr, cl_gr_eq, Bool.and_comm]
  simp
theorem fnd_app {l : Lk} : fndB (s ++ [l]) = (fndB s || decide (l.2 = .eq)) := by
  simp [fndB]
theorem fnd_no (h : fndB s = false) {b : Lk} (hb : b ∈ s) : b.2 ≠ .eq := by
  unfold fndB at h
  rw [List.any_eq_false] at h
  simpa using h b hb
/-- a left place may be looked at, with less or greater -/
theorem le_ok (hf : fcs s = none) (hn : fndB s = false) (hp : okMore s p = true) : fcs (s ++ [(p, .le)]) = none := by
  have hp := (fcs_app.mp (okMore_iff.mp hp)).2
  refine fcs_app.mpr ⟨hf, fun b hb => ?_⟩
  obtain ⟨h1, h2⟩ := hp b hb
  obtain ⟨t, y⟩ := b
  have := fnd_no hn hb
  cases y with
  | le => simp [clB] at *
  | gr => simp [clB] at *; exact h2
  | eq => exact absurd rfl this
theorem gr_ok (hf : fcs s = none) (hn : fndB s = false) (hp : okMore s p = true) : fcs (s ++ [(p, .gr)]) = none := by
  have hp := (fcs_app.mp (okMore_iff.mp hp)).2
  refine fcs_app.mpr ⟨hf, fun b hb => ?_⟩
  obtain ⟨h1, h2⟩ := hp b hb
  obtain ⟨t, y⟩ := b
  have := fnd_no hn hb
  cases y with
  | le => simp [clB] at *; exact h2
  | gr => simp [clB] at *
  | eq => exact absurd rfl this
theorem left_conv {r c : Nat} (hf : fcs s = none) : Conv (allP r c) (leftP r c s) := by
  intro a b q ha hb hq h1 h2
  obtain ⟨ha1, ha2⟩ := mem_left.mp ha
  obtain ⟨hb1, hb2⟩ := mem_left.mp hb
  refine mem_left.mpr ⟨mem_allP.mp hq, ?_⟩
  have ha3 := (fcs_app.mp (okMore_iff.mp ha2)).2
  have hb3 := (fcs_app.mp (okMore_iff.mp hb2)).2
  rw [okMore_iff, fcs_app]
  refine ⟨hf, fun l hl => ?_⟩
  obtain ⟨t, y⟩ := l
  obtain ⟨a1, a2⟩ := ha3 _ hl
  obtain ⟨b1, b2⟩ := hb3 _ hl
  have nt : ∀ {v : Bool}, v = false → ¬ v = true := fun h z => by rw [h] at z; cases z
  cases y with
  | le =>
    refine ⟨rfl, ?_⟩
    rw [cl_le_eq] at *
    cases hu : upTo q t with
    | false => rfl
    | true => exact absurd (up_trans h1 hu) (nt a2)
  | gr =>
    refine ⟨rfl, ?_⟩
    rw [cl_gr_eq] at *
    cases hu : upTo t q with
    | false => rfl
    | true => exact absurd (up_trans hu h2) (nt b2)
  | eq =>
    constructor
    · cases hc : clB (q, An.eq) (t, An.eq) with
      | false => rfl
      | true =>
        obtain ⟨_, n1, n2⟩ := cl_eq.mp hc
        have n2 : upTo q t = true := n2
        have n1 : q ≠ t := n1
        by_cases hat : a = t
        · subst hat; exact absurd (up_anti n2 h1) n1
        · exact absurd (cl_eq.mpr ⟨rfl, hat, up_trans h1 n2⟩) (nt a1)
    · cases hc : clB (t, An.eq) (q, An.eq) with
      | false => rfl
      | true =>
        obtain ⟨_, n1, n2⟩ := cl_eq.mp hc
        have n2 : upTo t q = true := n2
        have n1 : t ≠ q := n1
        by_cases hbt : t = b
        · subst hbt; exact absurd (up_anti n2 h2) n1
        · exact absurd (cl_eq.mpr ⟨rfl, hbt, up_trans n2 h2⟩) (nt b2)
end
theorem left_sub {r c : Nat} {s : List Lk} {q : Pl} (h : q ∈ leftP r c s) : q ∈ allP r c := (List.mem_filter.mp h).1
theorem opP_bound {r c : Nat} (hr : 1 ≤ r) (hc : 1 ≤ c) {s : List Lk} (hf : fcs s = none) : N (opP r c s) ≤ (r : Int) + c - 1 := by
  unfold opP
  split
  · rw [N_nil]; omega
  · exact N_bound hr hc (fun q h => left_sub h) (left_conv hf)
/-- a look more never needs more -/
theorem opP_app {r c : Nat} {s : List Lk} {l : Lk} (hf : fcs (s ++ [l]) = none) : N (opP r c (s ++ [l])) ≤ N (opP r c s) := by
  have hs := (fcs_app.mp hf).1
  have nn := N_nonneg _ (opP r c s) (Nat.le_refl _)
  unfold opP at *
  rw [fnd_app]
  cases h1 : fndB s with
  | true => simp
  | false =>
    rw [h1] at nn
    simp only [Bool.false_or, Bool.false_eq_true, if_false] at nn ⊢
    by_cases h2 : l.2 = .eq
    · simp only [h2, decide_true, if_true]; exact nn
    · simp only [h2, decide_false, Bool.false_eq_true, if_false]
      refine N_mono (U := allP r c) _ _ _ (Nat.le_refl _) (fun q hq => ?_) (fun q hq => left_sub hq) (left_conv hf)
      obtain ⟨q1, q2⟩ := mem_left.mp hq
      rw [okMore_app hf, Bool.and_eq_true] at q2
      exact mem_left.mpr ⟨q1, q2.1⟩
theorem blF_none {ps : List Pl} : blF ps = none ↔ ps = [] := by
  unfold blF
  rw [List.find?_eq_none]
  constructor
  · intro h
    cases hp : ps with
    | nil => rfl
    | cons a l =>
      obtain ⟨p, h1, h2⟩ := N_best (ps := ps) (by rw [hp]; simp)
      have := h p h1
      simp only [decide_eq_true_eq] at this
      exact absurd (by omega) this
  · rintro rfl x hx; cases hx
theorem blF_some {ps : List Pl} {p : Pl} (h : blF ps = some p) : p ∈ ps ∧ N ps = wst ps p + 1 := by
  unfold blF at h
  have h2 := List.find?_some h
  simp only [decide_eq_true_eq] at h2
  exact ⟨List.mem_of_find?_eq_some h, h2.symm⟩
theorem N_zero {ps : List Pl} : N ps = 0 ↔ ps = [] := by
  constructor
  · intro h
    cases hp : ps with
    | nil => rfl
    | cons a l =>
      obtain ⟨p, h1, h2⟩ := N_best (ps := ps) (by rw [hp]; simp)
      have h3 := N_nonneg _ (wUp ps p) (Nat.le_refl _)
      unfold wst at h2
      omega
  · rintro rfl; rfl
/-- an equal look is the last -/
theorem opP_eq {r c : Nat} {s : List Lk} {p : Pl} : opP r c (s ++ [(p, .eq)]) = [] := by
  unfold opP
  rw [fnd_app]; simp
theorem eq_plsL (a b : List Pl) : eqD (.list (plsD a)) (.list (plsD b)) = some (.bool (decide (a = b))) := by
  have := dep_pls a
  unfold eqD
  rw [if_pos (Nat.le_trans (Nat.min_le_left _ _) (by simp only [PyData.depth]; omega))]
  simp only [PyData.eqv, eqvAll_pls]
theorem ne_plsL (a b : List Pl) : neD (.list (plsD a)) (.list (plsD b)) = some (.bool (!decide (a = b))) := by
  have := dep_pls a
  unfold neD
  rw [if_pos (Nat.le_trans (Nat.min_le_left _ _) (by simp only [PyData.depth]; omega))]
  simp only [PyData.eqv, eqvAll_pls]
theorem nin_plsT (p : Pl) (a : List Pl) : ninD (plD p) (.tuple (plsD a)) = some (.bool (!decide (p ∈ a))) := by
  unfold ninD
  rw [in_plsT]; rfl
section
variable {Δ : Nat → Fn} {G : List (Str × D)} {a b c : IE} {ρ ρ1 ρ2 : Rho} {i j : Int}
theorem den_gt (h1 : den Δ G a ρ = .ok (.int i) ρ1) (h2 : den Δ G b ρ1 = .ok (.int j) ρ2) : den Δ G (.cmp .gt a b) ρ = .ok (.bool (decide (j < i))) ρ2 := den_cmp (o := .gt) h1 h2 rfl
theorem den_lt (h1 : den Δ G a ρ = .ok (.int i) ρ1) (h2 : den Δ G b ρ1 = .ok (.int j) ρ2) : den Δ G (.cmp .lt a b) ρ = .ok (.bool (decide (i < j))) ρ2 := den_cmp (o := .lt) h1 h2 rfl
theorem den_and2 {v w : Bool} (h1 : den Δ G a ρ = .ok (.bool v) ρ1) (h2 : v = true → den Δ G b ρ1 = .ok (.bool w) ρ1) : den Δ G (.and (.cons a (.cons b .nil))) ρ = .ok (.bool (v && w)) ρ1 := by
  show (den Δ G a ρ).bind _ = _
  rw [h1]
  cases v with
  | false => rfl
  | true => exact h2 rfl
theorem den_or3 {v w z : Bool} (h1 : den Δ G a ρ = .ok (.bool v) ρ1) (h2 : v = false → den Δ G b ρ1 = .ok (.bool w) ρ1) (h3 : v = false → w = false → den Δ G c ρ1 = .ok (.bool z) ρ1) : den Δ G (.or (.cons a (.cons b (.cons c .nil)))) ρ = .ok (.bool (v || (w || z))) ρ1 := by
  show (den Δ G a ρ).bind _ = _
  rw [h1]
  cases v with
  | true => rfl
  | false =>
    show (den Δ G b ρ1).bind _ = _
    rw [h2 rfl]
    cases w with
    | true => rfl
    | false => exact h3 rfl rfl
variable {x : D} {as : IAs} {ars : List Ar}
theorem dA_val (h : den Δ G a ρ = .ok x ρ1) (h2 : denA Δ G as ρ1 = .ok ars ρ2) : denA Δ G (.val a as) ρ = .ok (.dat x :: ars) ρ2 := by
  show (datR (den Δ G a) ρ).bind _ = _
  unfold datR
  rw [h, Res.bind_ok, Res.bind_ok, h2]; rfl
theorem dA_slo {i : Nat} {s : Sl} (h : argSl ρ (.slo i) = some s) (h2 : denA Δ G as ρ = .ok ars ρ2) : denA Δ G (.slo i as) ρ = .ok (.slo i :: ars) ρ2 := by
  show (sloR i ρ).bind _ = _
  unfold sloR
  rw [h]
  show (denA Δ G as ρ).bind _ = _
  rw [h2]; rfl
theorem dA_nil : denA Δ G .nil ρ = .ok [] ρ := rfl
end
end Dm
namespace Dm
open PySem PySem.Spec PyProof.Rows L2 LamX
/-! ### more rules of the evaluator -/
section
variable {Δ : Nat → Fn} {G : List (Str × D)} {a b c : IE} {r : ISs} {s : IS} {ρ ρ1 ρ2 ρ3 : Rho} {d x y z : D} {i j : Int}
theorem s_app {n : Nat} {f : Bool} {xs : List D} (h0 : isOwnS n ρ = true) (h : den Δ G a ρ = .ok d ρ1) (h1 : ρ1[n]? = some (.own f xs)) (h2 : xs.length < 1000000) : denS Δ G (.app n a) ρ = .nx (ρ1.set n (.own f (xs ++ [d]))) := by
  show appR n (den Δ G a) ρ = _
  unfold appR
  rw [if_pos h0, h]
  show (match ρ1[n]? with
  | some (.own f xs) => if xs.length < 1000000 then SR.nx (ρ1.set n (.own f (xs ++ [d]))) else .bad
  | _ => .bad) = _
  rw [h1]
  exact if_pos h2
theorem ss_bk (h : denS Δ G s ρ = .bk ρ1) : denSs Δ G (.cons s r) ρ = .bk ρ1 := by
  rw [ss_cons, h]; rfl
theorem ss_ex {e : Exn} (h : denS Δ G s ρ = .ex e ρ1) : denSs Δ G (.cons s r) ρ = .ex e ρ1 := by
  rw [ss_cons, h]; rfl
theorem s_expr (h : den Δ G a ρ = .ok d ρ1) : denS Δ G (.expr a) ρ = .nx ρ1 := by
  show (den Δ G a ρ).to _ = _
  rw [h]; rfl
theorem s_expr_xc {e : Exn} (h : den Δ G a ρ = .exc e ρ1) : denS Δ G (.expr a) ρ = .ex e ρ1 := by
  show (den Δ G a ρ).to _ = _
  rw [h]; rfl
theorem s_setL {n : Nat} : denS Δ G (.setL n) ρ = .nx (ρ.set n (.own false [])) := rfl
theorem s_asg {p : Pt} (h : den Δ G a ρ = .ok d ρ1) (h2 : bindP p d ρ1 = some ρ2) : denS Δ G (.asg p a) ρ = .nx ρ2 := by
  show (den Δ G a ρ).to _ = _
  rw [h]
  show (match bindP p d ρ1 with
  | some ρ2 => SR.nx ρ2
  | none => .bad) = _
  rw [h2]
theorem den_ite {v : Bool} (h : den Δ G c ρ = .ok (.bool v) ρ1) : den Δ G (.ite c a b) ρ = if v then den Δ G a ρ1 else den Δ G b ρ1 := by
  show (den Δ G c ρ).bind _ = _
  rw [h]
  cases v <;> rfl
theorem den_neg (h : den Δ G a ρ = .ok (.int i) ρ1) : den Δ G (.neg a) ρ = .ok (.int (-i)) ρ1 := by
  show (den Δ G a ρ).bind _ = _
  rw [h]; rfl
theorem den_addi (h1 : den Δ G a ρ = .ok (.int i) ρ1) (h2 : den Δ G b ρ1 = .ok (.int j) ρ2) : den Δ G (.bin .add a b) ρ = .ok (.int (i + j)) ρ2 := den_bin h1 h2 rfl
theorem den_subi (h1 : den Δ G a ρ = .ok (.int i) ρ1) (h2 : den Δ G b ρ1 = .ok (.int j) ρ2) : den Δ G (.bin .sub a b) ρ = .ok (.int (i - j)) ρ2 := den_bin h1 h2 rfl
theorem den_ge (h1 : den Δ G a ρ = .ok (.int i) ρ1) (h2 : den Δ G b ρ1 = .ok (.int j) ρ2) : den Δ G (.cmp .ge a b) ρ = .ok (.bool (decide (j ≤ i))) ρ2 := den_cmp (o := .ge) h1 h2 rfl
theorem den_le (h1 : den Δ G a ρ = .ok (.int i) ρ1) (h2 : den Δ G b ρ1 = .ok (.int j) ρ2) : den Δ G (.cmp .le a b) ρ = .ok (.bool (decide (i ≤ j))) ρ2 := den_cmp (o := .le) h1 h2 rfl
theorem den_eqi (h1 : den Δ G a ρ = .ok (.int i) ρ1) (h2 : den Δ G b ρ1 = .ok (.int j) ρ2) : den Δ G (.cmp .eq a b) ρ = .ok (.bool (decide (i = j))) ρ2 := den_cmp (o := .eq) h1 h2 (eqD_int i j)
theorem den_nei (h1 : den Δ G a ρ = .ok (.int i) ρ1) (h2 : den Δ G b ρ1 = .ok (.int j) ρ2) : den Δ G (.cmp .ne a b) ρ = .ok (.bool (!decide (i = j))) ρ2 := den_cmp (o := .ne) h1 h2 (neD_int i j)
theorem den_neb {u v : Bool} (h1 : den Δ G a ρ = .ok (.bool u) ρ1) (h2 : den Δ G b ρ1 = .ok (.bool v) ρ2) : den Δ G (.cmp .ne a b) ρ = .ok (.bool (u != v)) ρ2 := den_cmp (o := .ne) h1 h2 (neD_bool u v)
theorem den_and3 {u v w : Bool} (h1 : den Δ G a ρ = .ok (.bool u) ρ1) (h2 : u = true → den Δ G b ρ1 = .ok (.bool v) ρ1) (h3 : u = true → v = true → den Δ G c ρ1 = .ok (.bool w) ρ1) : den Δ G (.and (.cons a (.cons b (.cons c .nil)))) ρ = .ok (.bool (u && (v && w))) ρ1 := by
  show (den Δ G a ρ).bind _ = _
  rw [h1]
  cases u with
  | false => rfl
  | true =>
    show (den Δ G b ρ1).bind _ = _
    rw [h2 rfl]
    cases v with
    | false => rfl
    | true => exact h3 rfl rfl
theorem den_one (h : den Δ G a ρ = .ok d ρ1) : dens Δ G (.cons a .nil) ρ = .ok [d] ρ1 := dens_cons h rfl
theorem den_tup2 (h1 : den Δ G a ρ = .ok x ρ1) (h2 : den Δ G b ρ1 = .ok y ρ2) : den Δ G (.tup (.cons a (.cons b .nil))) ρ = .ok (.tuple [x, y]) ρ2 := den_tup (dens_cons h1 (den_one h2))
end
section
variable {c : Rho → Res D} {m : Rho → SR} {n : Nat} {ρ ρ1 ρ2 : Rho} {d : D}
theorem wh_f (h : c ρ = .ok (.bool false) ρ1) : whL c m (n + 1) ρ = .nx ρ1 := by
  unfold whL; rw [h]; rfl
theorem wh_t (h : c ρ = .ok (.bool true) ρ1) (h2 : m ρ1 = .nx ρ2) : whL c m (n + 1) ρ = whL c m n ρ2 := by
  rw [whL, h]
  show (match m ρ1 with
      | .nx ρ2 => whL c m n ρ2
      | .bk ρ2 => SR.nx ρ2
      | r => r) = _
  rw [h2]
theorem wh_b (h : c ρ = .ok (.bool true) ρ1) (h2 : m ρ1 = .bk ρ2) : whL c m (n + 1) ρ = .nx ρ2 := by
  rw [whL, h]
  show (match m ρ1 with
      | .nx ρ2 => whL c m n ρ2
      | .bk ρ2 => SR.nx ρ2
      | r => r) = _
  rw [h2]
theorem wh_r (h : c ρ = .ok (.bool true) ρ1) (h2 : m ρ1 = .rt d ρ2) : whL c m (n + 1) ρ = .rt d ρ2 := by
  rw [whL, h]
  show (match m ρ1 with
      | .nx ρ2 => whL c m n ρ2
      | .bk ρ2 => SR.nx ρ2
      | r => r) = _
  rw [h2]
end
end Dm
namespace Dm
open PySem PySem.Spec PyProof.Rows L2 LamX
/-! ### which answers are possible at a place -/
section
variable {s : List Lk} {p : Pl}
def okA (s : List Lk) (p : Pl) (y : An) : Bool := (fcs (s ++ [(p, y)])).isNone
theorem okA_iff (hf : fcs s = none) {y : An} : okA s p y = true ↔ ∀ b ∈ s, clB (p, y) b = false ∧ clB b (p, y) = false := by
  unfold okA
  rw [Option.isNone_iff_eq_none, fcs_app]
  exact ⟨fun h => h.2, fun h => ⟨hf, h⟩⟩
theorem okA_no (hf : fcs s = none) {y : An} : okA s p y = false ↔ ∃ b ∈ s, clB (p, y) b = true ∨ clB b (p, y) = true := by
  constructor
  · intro h
    apply Classical.byContradiction
    intro hc
    have : okA s p y = true := (okA_iff hf).mpr fun b hb => by
      constructor
      · cases q : clB (p, y) b with
        | false => rfl
        | true => exact absurd ⟨b, hb, .inl q⟩ hc
      · cases q : clB b (p, y) with
        | false => rfl
        | true => exact absurd ⟨b, hb, .inr q⟩ hc
    rw [h] at this; cases this
  · rintro ⟨b, hb, h⟩
    cases q : okA s p y with
    | false => rfl
    | true =>
      obtain ⟨h1, h2⟩ := (okA_iff hf).mp q b hb
      rw [h1, h2] at h
      rcases h with h | h <;> cases h
theorem okA_eq : okA s p .eq = okMore s p := rfl
theorem sureL_gr (hf : fcs s = none) (h : sureL s p = true) : okA s p .gr = false := by
  obtain ⟨q, h1, h2⟩ := sureL_iff.mp h
  refine (okA_no hf).mpr ?_
  rcases h2 with h2 | ⟨h2, _⟩
  · exact ⟨_, h2, .inl (by simp [clB, h1])⟩
  · exact ⟨_, h2, .inl (by simp [clB, h1])⟩
theorem sureL_eq (hf : fcs s = none) (h : sureL s p = true) : okA s p .eq = false := by
  obtain ⟨q, h1, h2⟩ := sureL_iff.mp h
  refine (okA_no hf).mpr ?_
  rcases h2 with h2 | ⟨h2, h3⟩
  · exact ⟨_, h2, .inr (by simp [clB, h1])⟩
  · exact ⟨_, h2, .inl (by simp [clB, h1, h3])⟩
theorem sureG_le (hf : fcs s = none) (h : sureG s p = true) : okA s p .le = false := by
  obtain ⟨q, h1, h2⟩ := sureG_iff.mp h
  refine (okA_no hf).mpr ?_
  rcases h2 with h2 | ⟨h2, _⟩
  · exact ⟨_, h2, .inl (by simp [clB, h1])⟩
  · exact ⟨_, h2, .inl (by simp [clB, h1])⟩
theorem sureG_eq (hf : fcs s = none) (h : sureG s p = true) : okA s p .eq = false := by
  obtain ⟨q, h1, h2⟩ := sureG_iff.mp h
  refine (okA_no hf).mpr ?_
  rcases h2 with h2 | ⟨h2, h3⟩
  · exact ⟨_, h2, .inr (by simp [clB, h1])⟩
  · exact ⟨_, h2, .inr (by simp [clB, h1]; exact fun z => h3 z.symm)⟩
theorem gr_sureL (hf : fcs s = none) (h : okA s p .gr = false) (hl : okA s p .le = true) : sureL s p = true := by
  obtain ⟨b, hb, hc⟩ := (okA_no hf).mp h
  obtain ⟨l1, l2⟩ := (okA_iff hf).mp hl b hb
  obtain ⟨q, y⟩ := b
  refine sureL_iff.mpr ⟨q, ?_⟩
  cases y with
  | le =>
    refine ⟨?_, .inl hb⟩
    simpa [clB] using hc
  | gr => simp [clB] at hc
  | eq =>
    have h1 : upTo p q = true := by simpa [clB] using hc
    refine ⟨h1, .inr ⟨hb, ?_⟩⟩
    rintro rfl
    simp [clB, up_refl] at l1
theorem le_sureG (hf : fcs s = none) (h : okA s p .le = false) (hl : okA s p .gr = true) : sureG s p = true := by
  obtain ⟨b, hb, hc⟩ := (okA_no hf).mp h
  obtain ⟨l1, l2⟩ := (okA_iff hf).mp hl b hb
  obtain ⟨q, y⟩ := b
  refine sureG_iff.mpr ⟨q, ?_⟩
  cases y with
  | gr =>
    refine ⟨?_, .inl hb⟩
    simpa [clB] using hc
  | le => simp [clB] at hc
  | eq =>
    have h1 : upTo q p = true := by simpa [clB] using hc
    refine ⟨h1, .inr ⟨hb, ?_⟩⟩
    rintro rfl
    simp [clB, up_refl] at l1
/-- the right answer is possible -/
theorem okA_right {r c : Nat} {e : Nat → Nat → Int} {x : Int} (h : Rising r c e) (hs : ∀ l ∈ s, inSz r c l.1) (ht : ∀ l ∈ s, l.2 = ansOf e x l.1) (hp : inSz r c p) : okA s p (ansOf e x p) = true := by
  unfold okA
  rw [Option.isNone_iff_eq_none]
  refine fcs_right (x := x) h (fun l hl => ?_) (fun l hl => ?_)
  · rcases List.mem_append.mp hl with hl | hl
    · exact hs l hl
    · rw [List.mem_singleton.mp hl]; exact hp
  · rcases List.mem_append.mp hl with hl | hl
    · exact ht l hl
    · rw [List.mem_singleton.mp hl]
/-- low: less alone is possible -/
theorem sure_some {r c : Nat} {e : Nat → Nat → Int} {x : Int} (h : Rising r c e) (hs : ∀ l ∈ s, inSz r c l.1) (ht : ∀ l ∈ s, l.2 = ansOf e x l.1) (hp : inSz r c p) :
    (sureL s p = (okA s p .le && (!okA s p .gr && !okA s p .eq))) ∧ (sureG s p = (okA s p .gr && (!okA s p .le && !okA s p .eq))) ∧ (sureL s p = true → ansOf e x p = .le) ∧ (sureG s p = true → ansOf e x p = .gr) := by
  have hf : fcs s = none := fcs_right h hs ht
  have hr := okA_right h hs ht hp
  have k1 : sureL s p = true → ansOf e x p = .le := fun hl => by
    have h1 := sureL_gr hf hl
    have h2 := sureL_eq hf hl
    cases q : ansOf e x p with
    | le => rfl
    | gr => rw [q, h1] at hr; cases hr
    | eq => rw [q, h2] at hr; cases hr
  have k2 : sureG s p = true → ansOf e x p = .gr := fun hl => by
    have h1 := sureG_le hf hl
    have h2 := sureG_eq hf hl
    cases q : ansOf e x p with
    | gr => rfl
    | le => rw [q, h1] at hr; cases hr
    | eq => rw [q, h2] at hr; cases hr
  refine ⟨?_, ?_, k1, k2⟩
  · rw [Bool.eq_iff_iff]
    simp only [Bool.and_eq_true, Bool.not_eq_true']
    constructor
    · intro hl
      have := k1 hl
      rw [this] at hr
      exact ⟨hr, sureL_gr hf hl, sureL_eq hf hl⟩
    · rintro ⟨h1, h2, _⟩
      exact gr_sureL hf h2 h1
  · rw [Bool.eq_iff_iff]
    simp only [Bool.and_eq_true, Bool.not_eq_true']
    constructor
    · intro hl
      have := k2 hl
      rw [this] at hr
      exact ⟨hr, sureG_le hf hl, sureG_eq hf hl⟩
    · rintro ⟨h1, h2, _⟩
      exact le_sureG hf h2 h1
end
/-! ### places, ascending -/
theorem asc_allP : ∀ r ∈ List.range 5, ∀ c ∈ List.range 5, (allP r c).Pairwise fun p q => p.1 * 64 + p.2 < q.1 * 64 + q.2 := by decide +kernel
theorem prI_pl {p : Pl} (h : p.1 < 64 ∧ p.2 < 64) : prI (plD p) = some [(p.1 : Int), (p.2 : Int)] := by
  unfold prI plD
  exact if_pos (by omega)
theorem prsI_pls : ∀ {ps : List Pl}, (∀ p ∈ ps, p.1 < 64 ∧ p.2 < 64) → prsI (plsD ps) = some (ps.map fun p => [(p.1 : Int), (p.2 : Int)])
  | [], _ => rfl
  | p :: ps, h => by
    have ih := prsI_pls (ps := ps) fun q hq => h q (List.mem_cons_of_mem _ hq)
    show (prI (plD p)).bind _ = _
    rw [prI_pl (h p List.mem_cons_self)]
    show (prsI (plsD ps)).map _ = _
    rw [ih]; rfl
theorem ascK_of : ∀ {ps : List Pl}, (ps.Pairwise fun p q => p.1 * 64 + p.2 < q.1 * 64 + q.2) → ascK (ps.map fun p => [(p.1 : Int), (p.2 : Int)]) = true
  | [], _ => rfl
  | p :: ps, h => by
    cases h with
    | cons h1 h2 =>
      have ih := ascK_of h2
      rw [List.map_cons]
      unfold ascK
      rw [ih, Bool.and_true, List.all_eq_true]
      intro k hk
      obtain ⟨q, hq, rfl⟩ := List.mem_map.mp hk
      have := h1 q hq
      apply decide_eq_true
      rw [code_pair, code_pair]
      omega
theorem ss_pls {r c : Nat} (hr : r ≤ 4) (hc : c ≤ 4) (q : Pl → Bool) : ssD (.tuple (plsD ((allP r c).filter q))) = some (.list (plsD ((allP r c).filter q))) := by
  have h1 : ∀ p ∈ (allP r c).filter q, p.1 < 64 ∧ p.2 < 64 := fun p hp => by
    have := mem_allP.mp (List.mem_filter.mp hp).1
    unfold inSz at this
    omega
  have h2 := (asc_allP r (List.mem_range.mpr (by omega)) c (List.mem_range.mpr (by omega))).filter q
  show (match prsI (plsD _) with
    | some ks => if decide (ks.length < 64) && ascK ks then some _ else none
    | none => none) = _
  rw [prsI_pls h1]
  have hl : ((allP r c).filter q).length ≤ 16 := by
    refine Nat.le_trans (List.length_filter_le _ _) ?_
    rw [allP_length]
    exact Nat.mul_le_mul hr hc
  show (if decide ((((allP r c).filter q).map fun p => [(p.1 : Int), (p.2 : Int)]).length < 64) && ascK (((allP r c).filter q).map fun p => [(p.1 : Int), (p.2 : Int)]) then some _ else none) = _
  rw [ascK_of h2, List.length_map, decide_eq_true (by omega)]; rfl
theorem den_ss {Δ : Nat → Fn} {G : List (Str × D)} {a : IE} {ρ ρ1 : Rho} {x y : D} (h : den Δ G a ρ = .ok x ρ1) (h2 : ssD x = some y) : den Δ G (.ss a) ρ = .ok y ρ1 := by
  show (den Δ G a ρ).bind _ = _
  rw [h, Res.bind_ok, h2]; rfl
end Dm
namespace Dm
open PySem PySem.Spec PyProof.Rows L2 LamX
/-! ### numberings: the math -/
def lexP (p q : Pl) : Bool := decide (p.1 < q.1 ∨ (p.1 = q.1 ∧ p.2 < q.2))
def kle (e : Nat → Nat → Int) (p q : Pl) : Bool := decide (e p.1 p.2 < e q.1 q.2 ∨ (e p.1 p.2 = e q.1 q.2 ∧ (p.1 < q.1 ∨ (p.1 = q.1 ∧ p.2 ≤ q.2))))
section
variable {e : Nat → Nat → Int}
theorem kle_refl (p : Pl) : kle e p p = true := by unfold kle; exact decide_eq_true (by omega)
theorem kle_total (p q : Pl) : (kle e p q || kle e q p) = true := by unfold kle; simp; omega
theorem kle_trans (p q t : Pl) (h1 : kle e p q = true) (h2 : kle e q t = true) : kle e p t = true := by unfold kle at *; simp at *; omega
theorem kle_anti {p q : Pl} (h1 : kle e p q = true) (h2 : kle e q p = true) : p = q := by
  unfold kle at *
  simp at *
  exact Prod.ext (by omega) (by omega)
def nbL (r c : Nat) (e : Nat → Nat → Int) : List Pl := (allP r c).mergeSort (kle e)
theorem nbL_perm (r c : Nat) : (nbL r c e).Perm (allP r c) := List.mergeSort_perm _ _
theorem nbL_pw (r c : Nat) : (nbL r c e).Pairwise fun p q => kle e p q = true := List.pairwise_mergeSort kle_trans kle_total _
theorem allP_nodup {r c : Nat} (hr : r ≤ 4) (hc : c ≤ 4) : (allP r c).Nodup := (asc_allP r (List.mem_range.mpr (by omega)) c (List.mem_range.mpr (by omega))).imp fun {a b} h z => by subst z; omega
theorem nbL_nodup {r c : Nat} (hr : r ≤ 4) (hc : c ≤ 4) : (nbL r c e).Nodup := (nbL_perm r c).nodup_iff.mpr (allP_nodup hr hc)
/-- how many come before p -/
def befB (e : Nat → Nat → Int) (p q : Pl) : Bool := kle e q p && !decide (q = p)
def cntK (r c : Nat) (e : Nat → Nat → Int) (p : Pl) : Nat := ((allP r c).filter (befB e p)).length
def nbF (r c : Nat) (e : Nat → Nat → Int) (i j : Nat) : Int := (cntK r c e (i, j) : Int) + 1
theorem bef_take {L : List Pl} (hp : L.Pairwise fun p q => kle e p q = true) (hn : L.Nodup) {k : Nat} {p : Pl} (hk : L[k]? = some p) : L.filter (befB e p) = L.take k := by
  have hkl : k < L.length := (List.getElem?_eq_some_iff.mp hk).1
  have ep : L[k] = p := (List.getElem?_eq_some_iff.mp hk).2
  have h1 : (L.take k).filter (befB e p) = L.take k := by
    rw [List.filter_eq_self]
    intro q hq
    obtain ⟨i, hi, rfl⟩ := List.getElem_of_mem hq
    rw [List.getElem_take]
    have hi' : i < k ∧ i < L.length := by simpa [Nat.lt_min] using hi
    have a1 := List.pairwise_iff_getElem.mp hp i k hi'.2 hkl hi'.1
    have a2 := List.pairwise_iff_getElem.mp hn i k hi'.2 hkl hi'.1
    rw [ep] at a1 a2
    unfold befB
    rw [a1]
    simpa using a2
  have h2 : (L.drop k).filter (befB e p) = [] := by
    rw [List.filter_eq_nil_iff]
    intro q hq hb
    obtain ⟨i, hi, rfl⟩ := List.getElem_of_mem hq
    rw [List.getElem_drop] at hb
    have hi' : k + i < L.length := by simpa [Nat.lt_sub_iff_add_lt, Nat.add_comm] using hi
    unfold befB at hb
    simp only [Bool.and_eq_true, Bool.not_eq_true', decide_eq_false_iff_not] at hb
    by_cases z : i = 0
    · subst z
      exact hb.2 ep
    · have a1 := List.pairwise_iff_getElem.mp hp k (k + i) hkl hi' (by omega)
      rw [ep] at a1
      exact hb.2 (kle_anti hb.1 a1)
  conv => lhs; rw [← List.take_append_drop k L]
  rw [List.filter_append, h1, h2, List.append_nil]
theorem cnt_at {r c : Nat} (hr : r ≤ 4) (hc : c ≤ 4) {k : Nat} {p : Pl} (hk : (nbL r c e)[k]? = some p) : cntK r c e p = k := by
  have h := bef_take (nbL_pw r c) (nbL_nodup hr hc) hk
  have hkl : k < (nbL r c e).length := (List.getElem?_eq_some_iff.mp hk).1
  unfold cntK
  rw [← ((nbL_perm r c).filter (befB e p)).length_eq, h, List.length_take]
  omega
theorem nb_at {r c : Nat} (hr : r ≤ 4) (hc : c ≤ 4) {p : Pl} (hp : inSz r c p) : (nbL r c e)[cntK r c e p]? = some p := by
  have hm : p ∈ nbL r c e := (nbL_perm r c).mem_iff.mpr (mem_allP.mpr hp)
  obtain ⟨k, hk⟩ := List.getElem?_of_mem hm
  rw [cnt_at hr hc hk]
  exact hk
theorem nbL_len (r c : Nat) : (nbL r c e).length = r * c := by rw [(nbL_perm r c).length_eq, allP_length]
theorem cnt_lt {r c : Nat} (hr : r ≤ 4) (hc : c ≤ 4) {p : Pl} (hp : inSz r c p) : cntK r c e p < r * c := by
  have := (List.getElem?_eq_some_iff.mp (nb_at (e := e) hr hc hp)).1
  rwa [nbL_len] at this
theorem flt_lt {α : Type} {a b : α → Bool} : ∀ {l : List α} {x : α}, (∀ y ∈ l, a y = true → b y = true) → x ∈ l → b x = true → a x = false → (l.filter a).length < (l.filter b).length
  | y :: l, x, h, hx, hb, ha => by
    have hle : (l.filter a).length ≤ (l.filter b).length := by
      have : ∀ m : List α, (∀ y ∈ m, a y = true → b y = true) → (m.filter a).length ≤ (m.filter b).length := fun m => by
        induction m with
        | nil => intro _; exact Nat.le_refl _
        | cons z m ih =>
          intro h
          have ih := ih fun y hy => h y (List.mem_cons_of_mem _ hy)
          cases q : a z with
          | false =>
            rw [List.filter_cons_of_neg (by simp [q])]
            refine Nat.le_trans ih ?_
            cases q2 : b z with
            | false => rw [List.filter_cons_of_neg (by simp [q2])]; exact Nat.le_refl _
            | true => rw [List.filter_cons_of_pos q2, List.length_cons]; omega
          | true =>
            rw [List.filter_cons_of_pos q, List.filter_cons_of_pos (h z List.mem_cons_self q), List.length_cons, List.length_cons]; omega
      exact this l fun y hy => h y (List.mem_cons_of_mem _ hy)
    rcases List.mem_cons.mp hx with z | z
    · subst z
      rw [List.filter_cons_of_neg (by simp [ha]), List.filter_cons_of_pos hb, List.length_cons]; omega
    · have ih := flt_lt (fun y hy => h y (List.mem_cons_of_mem _ hy)) z hb ha
      cases q : a y with
      | false =>
        rw [List.filter_cons_of_neg (by simp [q])]
        refine Nat.lt_of_lt_of_le ih ?_
        cases q2 : b y with
        | false => rw [List.filter_cons_of_neg (by simp [q2])]; exact Nat.le_refl _
        | true => rw [List.filter_cons_of_pos q2, List.length_cons]; omega
      | true =>
        rw [List.filter_cons_of_pos q, List.filter_cons_of_pos (h y List.mem_cons_self q), List.length_cons, List.length_cons]; omega
theorem cnt_mono {r c : Nat} {p q : Pl} (hp : inSz r c p) (h : kle e p q = true) (hn : p ≠ q) : cntK r c e p < cntK r c e q := by
  refine flt_lt (x := p) (fun y _ hy => ?_) (mem_allP.mpr hp) ?_ ?_
  · unfold befB at *
    simp only [Bool.and_eq_true, Bool.not_eq_true', decide_eq_false_iff_not] at *
    refine ⟨kle_trans _ _ _ hy.1 h, fun z => ?_⟩
    subst z
    exact hn (kle_anti h hy.1)
  · unfold befB
    rw [h]
    simpa using hn
  · unfold befB
    simp
theorem nb_rising {r c : Nat} (h : Rising r c e) : Rising r c (nbF r c e) := by
  constructor
  · intro i j hi hj
    have : kle e (i, j) (i, j + 1) = true := by unfold kle; have := h.row i j hi hj; exact decide_eq_true (.inl this)
    have := cnt_mono (r := r) (c := c) (p := (i, j)) ⟨hi, by show j < c; omega⟩ this (by simp)
    unfold nbF; omega
  · intro i j hi hj
    have : kle e (i, j) (i + 1, j) = true := by unfold kle; have := h.col i j hi hj; exact decide_eq_true (.inl this)
    have := cnt_mono (r := r) (c := c) (p := (i, j)) ⟨by show i < r; omega, hj⟩ this (by simp)
    unfold nbF; omega
theorem nb_bounds {r c : Nat} (hr : r ≤ 4) (hc : c ≤ 4) {i j : Nat} (hi : i < r) (hj : j < c) : 1 ≤ nbF r c e i j ∧ nbF r c e i j ≤ ((r * c : Nat) : Int) := by
  have := cnt_lt (e := e) hr hc (p := (i, j)) ⟨hi, hj⟩
  unfold nbF; omega
theorem nb_tab {r c : Nat} (hr : 1 ≤ r ∧ r ≤ 4) (hc : 1 ≤ c ∧ c ≤ 4) (h : Rising r c e) : isTab (tbD r c (nbF r c e)) = true := by
  refine (isTab_iff hr hc).mpr ⟨fun i j hi hj => ?_, nb_rising h⟩
  have h1 := nb_bounds (e := e) hr.2 hc.2 hi hj
  have h2 : r * c ≤ 16 := Nat.mul_le_mul hr.2 hc.2
  omega
def upTo1 (m : Nat) : List Int := (List.range m).map fun k => ((k : Nat) : Int) + 1
theorem sorted_unique {xs ys : List Int} (hx : xs.Pairwise fun a b => a ≤ b) (hy : ys.Pairwise fun a b => a ≤ b) (h : xs.Perm ys) : xs = ys := List.Perm.eq_of_pairwise (fun _ _ _ _ a b => Int.le_antisymm a b) hx hy h
theorem upTo1_pw (m : Nat) : (upTo1 m).Pairwise fun a b => a ≤ b := by
  unfold upTo1
  rw [List.pairwise_map]
  exact List.pairwise_lt_range.imp fun {a b} h => by omega
theorem nb_perm {r c : Nat} (hr : r ≤ 4) (hc : c ≤ 4) : (entsL r c (nbF r c e)).Perm (upTo1 (r * c)) := by
  have h1 : (entsL r c (nbF r c e)).Perm ((nbL r c e).map fun p => nbF r c e p.1 p.2) := ((nbL_perm r c).map _).symm
  refine h1.trans (List.Perm.of_eq ?_)
  apply List.ext_getElem?
  intro k
  unfold upTo1
  rw [List.getElem?_map, List.getElem?_map]
  by_cases hk : k < r * c
  · rw [List.getElem?_range hk]
    have hk' : k < (nbL r c e).length := by rw [nbL_len]; exact hk
    rw [List.getElem?_eq_getElem hk']
    have := cnt_at (e := e) hr hc (List.getElem?_eq_getElem hk')
    simp only [Option.map_some, nbF]
    rw [this]
  · rw [List.getElem?_eq_none (by rw [nbL_len]; omega), List.getElem?_eq_none (by simpa using hk)]; rfl
theorem nb_sorted {r c : Nat} (hr : r ≤ 4) (hc : c ≤ 4) : entS r c (nbF r c e) = upTo1 (r * c) := sorted_unique (isort_pw _) (upTo1_pw _) ((isort_perm _).trans (nb_perm hr hc))
/-- the numbering's own numbering -/
theorem kle_nb {r c : Nat} {p q : Pl} (hp : inSz r c p) (hq : inSz r c q) : kle (nbF r c e) p q = kle e p q := by
  by_cases hpq : p = q
  · subst hpq; rw [kle_refl, kle_refl]
  · have key : ∀ {p q : Pl}, inSz r c p → p ≠ q → kle e p q = true → nbF r c e p.1 p.2 < nbF r c e q.1 q.2 := fun {p q} hp hn h => by
      have := cnt_mono hp h hn
      show (cntK r c e p : Int) + 1 < (cntK r c e q : Int) + 1
      omega
    cases h : kle e p q with
    | true =>
      have := key hp hpq h
      unfold kle
      exact decide_eq_true (.inl this)
    | false =>
      have h2 : kle e q p = true := by
        have := kle_total (e := e) p q
        rw [h] at this
        simpa using this
      have := key hq (fun z => hpq z.symm) h2
      unfold kle
      exact decide_eq_false (by omega)
theorem cnt_congr {r c : Nat} {f : Nat → Nat → Int} {p : Pl} (h : ∀ q, inSz r c q → kle f q p = kle e q p) : cntK r c f p = cntK r c e p := by
  unfold cntK
  congr 1
  apply List.filter_congr
  intro q hq
  unfold befB
  rw [h q (mem_allP.mp hq)]
theorem nb_nb {r c : Nat} {i j : Nat} (hi : i < r) (hj : j < c) : nbF r c (nbF r c e) i j = nbF r c e i j := by
  show (cntK r c (nbF r c e) (i, j) : Int) + 1 = (cntK r c e (i, j) : Int) + 1
  rw [cnt_congr (e := e) fun q hq => kle_nb hq ⟨hi, hj⟩]
theorem nb_scale {r c : Nat} {m : Int} (hm : m = 1 ∨ m = 2) {i j : Nat} : nbF r c (fun i j => m * e i j) i j = nbF r c e i j := by
  have : cntK r c (fun i j => m * e i j) (i, j) = cntK r c e (i, j) := cnt_congr fun q _ => by
    show decide (m * e q.1 q.2 < m * e i j ∨ (m * e q.1 q.2 = m * e i j ∧ (q.1 < i ∨ (q.1 = i ∧ q.2 ≤ j)))) = decide (e q.1 q.2 < e i j ∨ (e q.1 q.2 = e i j ∧ (q.1 < i ∨ (q.1 = i ∧ q.2 ≤ j))))
    rw [Bool.eq_iff_iff, decide_eq_true_eq, decide_eq_true_eq]
    rcases hm with rfl | rfl <;> omega
  unfold nbF
  rw [this]
theorem tbD_congr {r c : Nat} {f : Nat → Nat → Int} (h : ∀ i j, i < r → j < c → f i j = e i j) : tbD r c f = tbD r c e := by
  unfold tbD rowD
  congr 1
  apply List.map_congr_left
  intro i hi
  congr 1
  apply List.map_congr_left
  intro j hj
  rw [h i j (List.mem_range.mp hi) (List.mem_range.mp hj)]
/-- by counts of lesser entries -/
theorem flt_or {α : Type} {a b : α → Bool} : ∀ (l : List α), (∀ x ∈ l, a x = true → b x = false) → (l.filter fun x => a x || b x).length = (l.filter a).length + (l.filter b).length
  | [], _ => rfl
  | x :: l, h => by
    have ih := flt_or l fun y hy => h y (List.mem_cons_of_mem _ hy)
    cases ha : a x with
    | true =>
      have hb := h x List.mem_cons_self ha
      rw [List.filter_cons_of_pos (by simp [ha]), List.filter_cons_of_pos ha, List.filter_cons_of_neg (by simp [hb]), List.length_cons, List.length_cons, ih]; omega
    | false =>
      cases hb : b x with
      | true => rw [List.filter_cons_of_pos (by simp [hb]), List.filter_cons_of_neg (by simp [ha]), List.filter_cons_of_pos hb, List.length_cons, List.length_cons, ih]; omega
      | false => rw [List.filter_cons_of_neg (by simp [ha, hb]), List.filter_cons_of_neg (by simp [ha]), List.filter_cons_of_neg (by simp [hb]), ih]
theorem cntL_ents (r c : Nat) (x : Int) : cntL (entS r c e) x = ((allP r c).filter fun q => decide (e q.1 q.2 < x)).length := by
  unfold cntL entS
  rw [((isort_perm (entsL r c e)).filter _).length_eq]
  unfold entsL
  rw [List.filter_map, List.length_map]; rfl
theorem cnt_parts {r c : Nat} (p : Pl) : cntK r c e p = cntL (entS r c e) (e p.1 p.2) + ((placesX r c e (e p.1 p.2)).filter fun q => lexP q p).length := by
  rw [cntL_ents]
  unfold placesX cntK
  rw [List.filter_filter, ← flt_or (l := allP r c) fun q _ h => by
    have := of_decide_eq_true h
    rw [Bool.and_eq_false_iff]
    right
    exact decide_eq_false (by omega)]
  congr 1
  apply List.filter_congr
  intro q _
  unfold befB kle lexP
  rw [Bool.eq_iff_iff]
  simp only [Bool.and_eq_true, Bool.or_eq_true, Bool.not_eq_true', decide_eq_true_eq, decide_eq_false_iff_not]
  constructor
  · rintro ⟨h1 | ⟨h1, h2⟩, h3⟩
    · exact .inl h1
    · refine .inr ⟨?_, h1⟩
      rcases h2 with h2 | ⟨h2, h4⟩
      · exact .inl h2
      · refine .inr ⟨h2, ?_⟩
        rcases Nat.lt_or_ge q.2 p.2 with h | h
        · exact h
        · exact absurd (Prod.ext h2 (by omega)) h3
  · rintro (h | ⟨h1, h2⟩)
    · refine ⟨.inl h, fun z => ?_⟩
      rw [z] at h; omega
    · refine ⟨.inr ⟨h2, by omega⟩, fun z => ?_⟩
      rw [z] at h1; omega
theorem kth_nb {r c : Nat} (hr : r ≤ 4) (hc : c ≤ 4) {p : Pl} (hp : inSz r c p) : (entS r c e).getD (cntK r c e p) 0 = e p.1 p.2 := by
  have hk : cntK r c e p < (entS r c e).length := by rw [entS_len]; exact cnt_lt hr hc hp
  have h1 := cnt_le (isort_pw (entsL r c e)) hk
  have h2 := cnt_ge (isort_pw (entsL r c e)) hk
  have h1 : cntL (entS r c e) ((entS r c e).getD (cntK r c e p) 0) ≤ cntK r c e p := h1
  have h2 : cntK r c e p + 1 ≤ cntL (entS r c e) ((entS r c e).getD (cntK r c e p) 0 + 1) := h2
  generalize (entS r c e).getD (cntK r c e p) 0 = v at h1 h2 ⊢
  rcases Int.lt_trichotomy v (e p.1 p.2) with h | h | h
  · exfalso
    have : cntL (entS r c e) (v + 1) ≤ cntK r c e p := by
      rw [cnt_parts]
      rw [cntL_ents, cntL_ents]
      have hle : ((allP r c).filter fun q => decide (e q.1 q.2 < v + 1)).length ≤ ((allP r c).filter fun q => decide (e q.1 q.2 < e p.1 p.2)).length := by
        have : ((allP r c).filter fun q => decide (e q.1 q.2 < v + 1)) = ((allP r c).filter fun q => decide (e q.1 q.2 < e p.1 p.2)).filter fun q => decide (e q.1 q.2 < v + 1) := by
          rw [List.filter_filter]
          apply List.filter_congr
          intro q _
          rw [Bool.eq_iff_iff]
          simp only [Bool.and_eq_true, decide_eq_true_eq]
          omega
        rw [this]
        exact List.length_filter_le _ _
      omega
    omega
  · exact h
  · exfalso
    have : cntK r c e p < cntL (entS r c e) v := by
      rw [cntL_ents]
      refine flt_lt (x := p) (fun q _ hq => ?_) (mem_allP.mpr hp) (decide_eq_true h) (by unfold befB; simp)
      unfold befB kle at hq
      simp only [Bool.and_eq_true, decide_eq_true_eq] at hq
      exact decide_eq_true (by omega)
    omega
end
end Dm
namespace Dm
open PySem PySem.Spec PyProof.Rows L2 LamX
/-! ### numbering_of, is_numbering -/
def kD (e : Nat → Nat → Int) (p : Pl) : D := .tuple [.int (e p.1 p.2), plD p]
theorem dle_kD (e : Nat → Nat → Int) (p q : Pl) : dle (kD e p) (kD e q) = kle e p q := by
  show (!PySem.W.dataLt (kD e q) (kD e p)) = kle e p q
  unfold kD
  rw [PySem.W.dataLt_pair rfl rfl, eqv_int, eqv_pl, PySem.W.dataLt_int]
  unfold plD
  rw [PySem.W.dataLt_ii]
  unfold kle
  by_cases h1 : e q.1 q.2 = e p.1 p.2
  · rw [if_pos (decide_eq_true h1)]
    by_cases h2 : q = p
    · rw [if_pos (decide_eq_true h2)]
      subst h2
      simp
    · rw [if_neg (by simpa using h2)]
      have h3 : ¬ (q.1 = p.1 ∧ q.2 = p.2) := fun z => h2 (Prod.ext z.1 z.2)
      rw [Bool.eq_iff_iff, Bool.not_eq_true', decide_eq_false_iff_not, decide_eq_true_eq]
      omega
  · rw [if_neg (by simpa using h1)]
    rw [Bool.eq_iff_iff, Bool.not_eq_true', decide_eq_false_iff_not, decide_eq_true_eq]
    omega
theorem dep_kD (e : Nat → Nat → Int) (p : Pl) : (kD e p).depth ≤ 60 := by
  have := dep_pl p
  simp only [kD, PyData.depth, PyData.depthAll]
  omega
theorem sortable_kD (e : Nat → Nat → Int) (ps : List Pl) : sortable (ps.map (kD e)) = true := by
  unfold sortable
  simp only [Bool.and_eq_true, Bool.or_eq_true, List.all_map, List.all_eq_true, Function.comp]
  exact ⟨⟨.inl fun x _ => rfl, fun x _ y _ => rfl⟩, fun x _ => decide_eq_true (dep_kD e x)⟩
theorem sorted_kD (r c : Nat) (e : Nat → Nat → Int) : Bt.sorted.den [.list ((allP r c).map (kD e))] = some (.list ((nbL r c e).map (kD e))) := by
  show (if sortable _ = true then some (PyData.list (msortF dle _ _)) else none) = _
  rw [if_pos (sortable_kD e _), msortF_eq _ _ (Nat.le_refl _)]
  congr 2
  exact (List.map_mergeSort (r := kle e) (s := dle) (f := kD e) (l := allP r c) fun a _ b _ => (dle_kD e a b).symm).symm
theorem idx_pls {L : List Pl} (hn : L.Nodup) {k : Nat} {p : Pl} (hk : L[k]? = some p) : idxD (.list (plsD L)) (plD p) = some (.int (k : Int)) := by
  show (if (plD p).depth ≤ 60 ∧ (PyData.list (plsD L)).depth ≤ 60 then ((plsD L).findIdx? fun z => PyData.eqv z (plD p)).map fun j => PyData.int (j : Nat) else none) = _
  have h1 := dep_pl p
  have h2 := dep_pls L
  rw [if_pos ⟨by omega, by simp only [PyData.depth]; omega⟩]
  have : (plsD L).findIdx? (fun z => PyData.eqv z (plD p)) = some k := by
    unfold plsD
    rw [List.findIdx?_map, List.findIdx?_eq_some_iff_getElem]
    obtain ⟨hl, ep⟩ := List.getElem?_eq_some_iff.mp hk
    refine ⟨hl, ?_, fun j hj => ?_⟩
    · show PyData.eqv (plD L[k]) (plD p) = true
      rw [eqv_pl, ep]
      exact decide_eq_true rfl
    · show ¬ PyData.eqv (plD L[j]) (plD p) = true
      rw [eqv_pl]
      have := List.pairwise_iff_getElem.mp hn j k (by omega) hl hj
      rw [ep] at this
      simpa using this
  rw [this]; rfl
section
variable {Δ Δ1 : Nat → Fn} {G : List (Str × D)}
structure SpNumOf (Δ : Nat → Fn) : Prop where
  ok : ∀ (r c : Nat) e ρ, 1 ≤ r ∧ r ≤ 4 → 1 ≤ c ∧ c ≤ 4 → isTab (tbD r c e) = true → callD (Δ i_numbering_of) false [.dat (tbD r c e)] ρ = .ok (tbD r c (nbF r c e)) ρ
  no : ∀ d ρ, isTab d = false → callD (Δ i_numbering_of) false [.dat d] ρ = .exc .table ρ
def nbRow (r c : Nat) (e : Nat → Nat → Int) (i : Nat) : D := rowD c (nbF r c e i)
def bNum : ISs := (.cons (.app 6 (.blt .tuple (.cons (.comp (.nm 8) [("column", 8)] (.rng1 (.ixv 1 (.int 1))) .yes (.bin .add (.idx (.var 5) (.tup (.cons (.var 7) (.cons (.var 8) .nil)))) (.int 1))) .nil))) .nil)
def stN (r c : Nat) (e : Nat → Nat → Int) (a3 : Sl) (n : Nat) (a7 : Sl) : Rho := [.val (tbD r c e), .val (szD r c), .un, a3, .un, .val (.list (plsD (nbL r c e))), .own false ((List.range n).map (nbRow r c e)), a7, .un]
theorem num_turn (r c : Nat) (hr : r ≤ 4) (hc : c ≤ 4) (e : Nat → Nat → Int) (a3 : Sl) {n : Nat} (hn : n < r) : denSs Δ1 G bNum (stN r c e a3 n (.val (.int (n : Int)))) = .nx (stN r c e a3 (n + 1) (.val (.int (n : Int)))) := by
  let S := stN r c e a3 n (.val (.int (n : Int)))
  have h1 : den Δ1 G (.comp (.nm 8) [("column", 8)] (.rng1 (.ixv 1 (.int 1))) .yes (.bin .add (.idx (.var 5) (.tup (.cons (.var 7) (.cons (.var 8) .nil)))) (.int 1))) S = .ok (.list ((List.range c).map fun j => .int (nbF r c e n j))) S := by
    refine comp_nm (List.range c) (fun j => .int (j : Int)) _ rfl (rng1_ok rfl (by omega)) (by simp; omega) (fun j hj => ?_)
    have hj := List.mem_range.mp hj
    have hi : inSz r c (n, j) := ⟨hn, hj⟩
    refine den_addi (i := (cntK r c e (n, j) : Int)) (j := 1) (ρ1 := S.set 8 (.val (.int (j : Int)))) ?_ rfl
    show lift (idxD (.list (plsD (nbL r c e))) (plD (n, j))) _ = _
    rw [idx_pls (nbL_nodup hr hc) (nb_at hr hc hi)]; rfl
  unfold bNum
  rw [ss_nx (s_app (ρ1 := S) (f := false) (xs := (List.range n).map (nbRow r c e)) (d := nbRow r c e n) rfl (den_blt (den_one h1) rfl) rfl (by simp; omega))]
  have : (List.range n).map (nbRow r c e) ++ [nbRow r c e n] = (List.range (n + 1)).map (nbRow r c e) := by rw [List.range_succ, List.map_append]; rfl
  rw [this]
  rfl
theorem sp_numof (h : Δ i_numbering_of = F_numbering_of.fn Δ1 G) (c1 : SpNeedTable Δ1) (c2 : SpSizeOf Δ1) (c3 : SpPlaces Δ1) (c4 : SpAt Δ1) : SpNumOf Δ where
  ok := fun r c e ρ hr hc ht => by
    refine call_rt h rfl (ds := [tbD r c e]) ?_ ρ
    show Rt 1 _ (denSs Δ1 G (.cons _ (.cons _ (.cons _ (.cons _ (.cons _ (.cons (.for_ (.nm 7) (.rng1 (.ixv 1 (.int 0))) bNum) (.cons (.ret (.blt .tuple (.cons (.var 6) .nil))) .nil))))))) [.val (tbD r c e), .un, .un, .un, .un, .un, .un, .un, .un])
    rw [ss_nx (s_expr (den_call (ars := [.dat (tbD r c e)]) rfl (c1.ok _ _ ht)))]
    let S0 : Rho := [.val (tbD r c e), .un, .un, .un, .un, .un, .un, .un, .un]
    rw [ss_nx (s_set (ρ1 := S0) (den_call (ars := [.dat (tbD r c e)]) rfl (c2 r c e _ hr.1)))]
    let S1 : Rho := [.val (tbD r c e), .val (szD r c), .un, .un, .un, .un, .un, .un, .un]
    show Rt 1 _ (denSs Δ1 G _ S1)
    have h3 : den Δ1 G (.comp (.nm 2) [("place", 2)] (.dat (.call 19 false (.val (.var 1) .nil))) .yes (.tup (.cons (.call 20 false (.val (.var 0) (.val (.var 2) .nil))) (.cons (.var 2) .nil)))) S1 = .ok (.list ((allP r c).map (kD e))) S1 := by
      refine comp_nm (allP r c) plD (kD e) rfl ?_ (allP_len r c (by omega) (by omega)) (fun p hp => ?_)
      · show (itR _) _ = _
        unfold itR
        rw [den_call (ars := [.dat (szD r c)]) rfl (c3 r c _ hr.2 hc.2)]
        rfl
      · exact den_tup2 (den_call (ars := [.dat (tbD r c e), .dat (plD p)]) rfl (c4 r c e p _ (mem_allP.mp hp))) rfl
    rw [ss_nx (s_set (ρ1 := S1) (den_blt (den_one h3) (sorted_kD r c e)))]
    let S2 : Rho := [.val (tbD r c e), .val (szD r c), .un, .val (.list ((nbL r c e).map (kD e))), .un, .un, .un, .un, .un]
    show Rt 1 _ (denSs Δ1 G _ S2)
    have h4 : den Δ1 G (.comp (.tp (.cons (.nm 4) (.cons (.nm 2) .nil))) [("entry", 4), ("place", 2)] (.dat (.var 3)) .yes (.var 2)) S2 = .ok (.list (plsD (nbL r c e))) S2 := by
      have hl : (nbL r c e).length ≤ 1000000 := by
        rw [nbL_len]
        exact Nat.le_trans (Nat.mul_le_mul hr.2 hc.2) (by decide)
      exact comp_tp (nbL r c e) (fun p => .int (e p.1 p.2)) plD plD (by decide) rfl rfl rfl hl (fun p hp => rfl)
    rw [ss_nx (s_set (ρ1 := S2) h4), ss_nx s_setL]
    show Rt 1 _ (denSs Δ1 G _ (stN r c e (.val (.list ((nbL r c e).map (kD e)))) 0 .un))
    rw [ss_cons, s_for1 (n := r) (ρ1 := stN r c e (.val (.list ((nbL r c e).map (kD e)))) 0 .un) rfl (by omega)]
    obtain ⟨ρ', e3, hI⟩ := for_inv (p := .nm 7) (body := denSs Δ1 G bNum) (fun i : Nat => PyData.int (i : Int)) (fun t ρ => ∃ a7, ρ = stN r c e (.val (.list ((nbL r c e).map (kD e)))) t a7) (List.range r) (stN r c e (.val (.list ((nbL r c e).map (kD e)))) 0 .un) ⟨_, rfl⟩ (fun t y ρ hy hI => by
      obtain ⟨ht, hy'⟩ := List.getElem?_eq_some_iff.mp hy
      rw [List.getElem_range] at hy'
      rw [List.length_range] at ht
      subst hy'
      obtain ⟨a7, rfl⟩ := hI
      exact ⟨_, _, rfl, num_turn r c hr.2 hc.2 e _ ht, _, rfl⟩)
    rw [List.length_range] at hI
    obtain ⟨a7, rfl⟩ := hI
    rw [e3, SR.seq_nx]
    exact Rt.of (ρ := [.val (tbD r c e), .val (szD r c), .un, .val (.list ((nbL r c e).map (kD e))), .un, .val (.list (plsD (nbL r c e))), .val (.list ((List.range r).map (nbRow r c e))), a7, .un]) rfl (by simp)
  no := fun d ρ hd => by
    refine call_xc h rfl (ds := [d]) ?_ ρ
    refine ⟨[.val d, .un, .un, .un, .un, .un, .un, .un, .un], ?_, by simp⟩
    show denSs Δ1 G (.cons (.expr (.call 4 false (.val (.var 0) .nil))) _) [.val d, .un, .un, .un, .un, .un, .un, .un, .un] = _
    exact ss_ex (s_expr_xc (den_call_xc (ars := [.dat d]) rfl (c1.no _ _ hd)))
/-! good_numbering -/
theorem eqv_ints : ∀ a b : List Int, PyData.eqvAll (a.map PyData.int) (b.map PyData.int) = decide (a = b)
  | [], [] => by simp [PyData.eqvAll]
  | [], _ :: _ => by simp [PyData.eqvAll]
  | _ :: _, [] => by simp [PyData.eqvAll]
  | p :: a, q :: b => by
    have ih := eqv_ints a b
    simp only [List.map_cons]
    rw [PyData.eqvAll, ih, eqv_int]
    by_cases h1 : p = q <;> by_cases h2 : a = b <;> simp [h1, h2]
theorem dep_ints (a : List Int) : (PyData.list (a.map PyData.int)).depth ≤ 3 := by
  have : ∀ a : List Int, PyData.depthAll (a.map PyData.int) ≤ 2 := fun a => by
    induction a with
    | nil => simp [PyData.depthAll]
    | cons x a ih =>
      rw [List.map_cons, PyData.depthAll]
      simp only [PyData.depth]
      omega
  have := this a
  simp only [PyData.depth]
  omega
theorem eq_ints (a b : List Int) : eqD (.list (a.map PyData.int)) (.list (b.map PyData.int)) = some (.bool (decide (a = b))) := by
  unfold eqD
  have := dep_ints a
  rw [if_pos (by omega)]
  simp only [PyData.eqv, eqv_ints]
theorem intsD_upTo1 (m : Nat) : intsD 1 m = (upTo1 m).map PyData.int := by
  unfold intsD upTo1
  rw [List.map_map]
  apply List.map_congr_left
  intro i _
  show PyData.int (1 + (i : Int)) = PyData.int ((i : Int) + 1)
  congr 1; omega
structure SpGoodNum (Δ : Nat → Fn) : Prop where
  no : ∀ (r c : Nat) d ρ, isTab d = false → callD (Δ i_good_numbering) false [.dat (szD r c), .dat d] ρ = .ok (.bool false) ρ
  sz : ∀ (r c r' c' : Nat) e ρ, 1 ≤ r' → isTab (tbD r' c' e) = true → ¬ (r' = r ∧ c' = c) → callD (Δ i_good_numbering) false [.dat (szD r c), .dat (tbD r' c' e)] ρ = .ok (.bool false) ρ
  ok : ∀ (r c : Nat) e ρ, 1 ≤ r ∧ r ≤ 4 → 1 ≤ c ∧ c ≤ 4 → isTab (tbD r c e) = true → callD (Δ i_good_numbering) false [.dat (szD r c), .dat (tbD r c e)] ρ = .ok (.bool (decide (entS r c e = upTo1 (r * c)))) ρ
theorem ne_sz (r c r' c' : Nat) : neD (szD r' c') (szD r c) = some (.bool (!decide (r' = r ∧ c' = c))) := by
  have := ne_pl (r', c') (r, c)
  rw [show szD r' c' = plD (r', c') from rfl, show szD r c = plD (r, c) from rfl, this]
  simp [Prod.ext_iff]
theorem sp_goodnum (h : Δ i_good_numbering = F_good_numbering.fn Δ1 G) (c1 : SpTable Δ1) (c2 : SpSizeOf Δ1) (c3 : SpPlaces Δ1) (c4 : SpAt Δ1) : SpGoodNum Δ where
  no := fun r c d ρ hd => by
    refine call_rt h rfl (ds := [szD r c, d]) ?_ ρ
    have e1 := c1 d [.val (szD r c), .val d, .un]
    rw [hd] at e1
    refine Rt.of (ρ := [.val (szD r c), .val d, .un]) ?_ (by simp)
    show denSs Δ1 G (.cons (.ifs (.or (.cons (.not (.call 3 false (.val (.var 1) .nil))) (.cons (.cmp .ne (.call 18 false (.val (.var 1) .nil)) (.var 0)) .nil))) (.cons (.ret (.bl false)) .nil) .nil) _) [.val (szD r c), .val d, .un] = _
    refine ss_rt ?_
    rw [s_if_t (ρ1 := [.val (szD r c), .val d, .un])]
    · rfl
    · exact den_or2 (v := true) (w := true) (den_not (v := false) (den_call (ars := [.dat d]) rfl e1)) (fun z => by cases z)
  sz := fun r c r' c' e ρ hr' ht hne => by
    refine call_rt h rfl (ds := [szD r c, tbD r' c' e]) ?_ ρ
    have e1 := c1 (tbD r' c' e) [.val (szD r c), .val (tbD r' c' e), .un]
    rw [ht] at e1
    refine Rt.of (ρ := [.val (szD r c), .val (tbD r' c' e), .un]) ?_ (by simp)
    show denSs Δ1 G (.cons (.ifs (.or (.cons (.not (.call 3 false (.val (.var 1) .nil))) (.cons (.cmp .ne (.call 18 false (.val (.var 1) .nil)) (.var 0)) .nil))) (.cons (.ret (.bl false)) .nil) .nil) _) [.val (szD r c), .val (tbD r' c' e), .un] = _
    refine ss_rt ?_
    rw [s_if_t (ρ1 := [.val (szD r c), .val (tbD r' c' e), .un])]
    · rfl
    · refine den_or2 (v := false) (w := true) (den_not (v := true) (den_call (ars := [.dat (tbD r' c' e)]) rfl e1)) (fun _ => den_ne (den_call (ars := [.dat (tbD r' c' e)]) rfl (c2 r' c' e _ hr')) (y := szD r c) rfl ?_)
      rw [ne_sz, decide_eq_false hne]; rfl
  ok := fun r c e ρ hr hc ht => by
    refine call_rt h rfl (ds := [szD r c, tbD r c e]) ?_ ρ
    let S : Rho := [.val (szD r c), .val (tbD r c e), .un]
    have e1 := c1 (tbD r c e) S
    rw [ht] at e1
    refine Rt.of (ρ := S) ?_ (by simp [S])
    show denSs Δ1 G (.cons (.ifs (.or (.cons (.not (.call 3 false (.val (.var 1) .nil))) (.cons (.cmp .ne (.call 18 false (.val (.var 1) .nil)) (.var 0)) .nil))) (.cons (.ret (.bl false)) .nil) .nil) (.cons (.ret (.cmp .eq (.blt .sorted (.cons (.comp (.nm 2) [("place", 2)] (.dat (.call 19 false (.val (.var 0) .nil))) .yes (.call 20 false (.val (.var 1) (.val (.var 2) .nil)))) .nil)) (.lrg (.int 1) (.bin .add (.bin .mul (.ixv 0 (.int 0)) (.ixv 0 (.int 1))) (.int 1))))) .nil)) S = _
    rw [ss_nx (s_if_f (ρ1 := S) (den_or2 (v := false) (w := false) (den_not (v := true) (den_call (ars := [.dat (tbD r c e)]) rfl e1)) (fun _ => den_ne (den_call (ars := [.dat (tbD r c e)]) rfl (c2 r c e _ hr.1)) (y := szD r c) rfl (by rw [ne_sz, decide_eq_true ⟨rfl, rfl⟩]; rfl))))]
    have h1 : den Δ1 G (.comp (.nm 2) [("place", 2)] (.dat (.call 19 false (.val (.var 0) .nil))) .yes (.call 20 false (.val (.var 1) (.val (.var 2) .nil)))) S = .ok (.list ((entsL r c e).map PyData.int)) S := by
      have : (entsL r c e).map PyData.int = (allP r c).map fun p => .int (e p.1 p.2) := by unfold entsL; rw [List.map_map]; rfl
      rw [this]
      refine comp_nm (allP r c) plD _ rfl ?_ (allP_len r c (by omega) (by omega)) (fun p hp => ?_)
      · show (itR _) _ = _
        unfold itR
        rw [den_call (ars := [.dat (szD r c)]) rfl (c3 r c _ hr.2 hc.2)]
        rfl
      · exact den_call (ars := [.dat (tbD r c e), .dat (plD p)]) rfl (c4 r c e p _ (mem_allP.mp hp))
    have h2 : den Δ1 G (.lrg (.int 1) (.bin .add (.bin .mul (.ixv 0 (.int 0)) (.ixv 0 (.int 1))) (.int 1))) S = .ok (.list ((upTo1 (r * c)).map PyData.int)) S := by
      have hm : r * c ≤ 16 := Nat.mul_le_mul hr.2 hc.2
      have hmI : (r : Int) * c = ((r * c : Nat) : Int) := by rw [Int.natCast_mul]
      have g : den Δ1 G (.bin .add (.bin .mul (.ixv 0 (.int 0)) (.ixv 0 (.int 1))) (.int 1)) S = .ok (.int (((r * c : Nat) : Int) + 1)) S := by
        rw [← hmI]
        have hm2 : B2.mul.den (.int (r : Int)) (.int (c : Int)) = some (.int ((r : Int) * c)) := by
          rw [B2.den]
          refine mul_r _ _ ?_
          rw [decide_eq_true (by omega), decide_eq_true (by omega)]; rfl
        have g0 : den Δ1 G (.ixv 0 (.int 0)) S = .ok (.int (r : Int)) S := rfl
        have g1 : den Δ1 G (.ixv 0 (.int 1)) S = .ok (.int (c : Int)) S := rfl
        have g2 : den Δ1 G (.bin .mul (.ixv 0 (.int 0)) (.ixv 0 (.int 1))) S = .ok (.int ((r : Int) * c)) S := den_bin (o := .mul) g0 g1 hm2
        have g3 : den Δ1 G (.int 1) S = .ok (.int 1) S := rfl
        exact den_addi g2 g3
      show lrgR _ _ S = _
      unfold lrgR
      rw [show den Δ1 G (.int 1) S = .ok (.int 1) S from rfl, Res.bind_ok, g, Res.bind_ok]
      dsimp only
      have ht : (((r * c : Nat) : Int) + 1 - 1).toNat = r * c := by omega
      have hb : ((smallI 1 && smallI (((r * c : Nat) : Int) + 1)) && decide ((((r * c : Nat) : Int) + 1 - 1).toNat ≤ 2 ^ 24)) = true := by
        rw [ht, smallI_le (by decide) (by decide), smallI_le (by omega) (by omega), decide_eq_true (Nat.le_trans hm (by decide))]; rfl
      rw [if_pos hb, ht, intsD_upTo1]
    refine ss_rt (s_ret (den_eq (x := .list ((entS r c e).map PyData.int)) (y := .list ((upTo1 (r * c)).map PyData.int)) (den_blt (den_one h1) (sorted_ints _)) h2 (eq_ints _ _)))
structure SpIsNum (Δ : Nat → Fn) : Prop where
  bad : ∀ d x ρ, isSz d = false → callD (Δ i_is_numbering) false [.dat d, .dat x] ρ = .exc .size ρ
  no : ∀ (r c : Nat) d ρ, 1 ≤ r ∧ r ≤ 4 → 1 ≤ c ∧ c ≤ 4 → isTab d = false → callD (Δ i_is_numbering) false [.dat (szD r c), .dat d] ρ = .ok (.bool false) ρ
  sz : ∀ (r c r' c' : Nat) e ρ, 1 ≤ r ∧ r ≤ 4 → 1 ≤ c ∧ c ≤ 4 → 1 ≤ r' → isTab (tbD r' c' e) = true → ¬ (r' = r ∧ c' = c) → callD (Δ i_is_numbering) false [.dat (szD r c), .dat (tbD r' c' e)] ρ = .ok (.bool false) ρ
  ok : ∀ (r c : Nat) e ρ, 1 ≤ r ∧ r ≤ 4 → 1 ≤ c ∧ c ≤ 4 → isTab (tbD r c e) = true → callD (Δ i_is_numbering) false [.dat (szD r c), .dat (tbD r c e)] ρ = .ok (.bool (decide (entS r c e = upTo1 (r * c)))) ρ
theorem sp_isnum (h : Δ i_is_numbering = F_is_numbering.fn Δ1 G) (c1 : SpNeedSize Δ1) (c2 : SpGoodNum Δ1) : SpIsNum Δ := by
  have key : ∀ (r c : Nat) d b ρ, 1 ≤ r ∧ r ≤ 4 → 1 ≤ c ∧ c ≤ 4 → (∀ ρ, callD (Δ1 i_good_numbering) false [.dat (szD r c), .dat d] ρ = .ok (.bool b) ρ) → callD (Δ i_is_numbering) false [.dat (szD r c), .dat d] ρ = .ok (.bool b) ρ := fun r c d b ρ hr hc hg => by
    refine call_rt h rfl (ds := [szD r c, d]) ?_ ρ
    refine Rt.of (ρ := [.val (szD r c), .val d]) ?_ (by simp)
    show denSs Δ1 G (.cons (.expr (.call 30 false (.val (.var 0) .nil))) (.cons (.ret (.call 69 false (.val (.var 0) (.val (.var 1) .nil)))) .nil)) [.val (szD r c), .val d] = _
    rw [ss_nx (s_expr (den_call (ars := [.dat (szD r c)]) rfl (c1.ok _ _ (isSz_sz hr hc))))]
    exact ss_rt (s_ret (den_call (ars := [.dat (szD r c), .dat d]) rfl (hg _)))
  refine ⟨fun d x ρ hd => ?_, fun r c d ρ hr hc hd => key r c d _ ρ hr hc fun ρ => c2.no r c d ρ hd, fun r c r' c' e ρ hr hc hr' ht hne => key r c _ _ ρ hr hc fun ρ => c2.sz r c r' c' e ρ hr' ht hne, fun r c e ρ hr hc ht => key r c _ _ ρ hr hc fun ρ => c2.ok r c e ρ hr hc ht⟩
  refine call_xc h rfl (ds := [d, x]) ?_ ρ
  refine ⟨[.val d, .val x], ?_, by simp⟩
  show denSs Δ1 G (.cons (.expr (.call 30 false (.val (.var 0) .nil))) _) [.val d, .val x] = _
  exact ss_ex (s_expr_xc (den_call_xc (ars := [.dat d]) rfl (c1.no _ _ hd)))
end
end Dm
namespace Dm
open PySem PySem.Spec PyProof.Rows L2 LamX
/-! ### tables compared; comprehensions over a name that is in use -/
theorem alikeAll_of : ∀ {xs ys : List D}, (∀ x ∈ xs, ∀ y ∈ ys, PySem.W.alike x y = true) → PySem.W.alikeAll xs ys = true
  | [], _, _ => by rw [PySem.W.alikeAll]
  | _ :: _, [], _ => by rw [PySem.W.alikeAll]
  | x :: xs, y :: ys, h => by
    rw [PySem.W.alikeAll, h x List.mem_cons_self y List.mem_cons_self, alikeAll_of fun a ha b hb => h a (List.mem_cons_of_mem _ ha) b (List.mem_cons_of_mem _ hb)]; rfl
theorem alike_row (c c' : Nat) (f g : Nat → Int) : PySem.W.alike (rowD c f) (rowD c' g) = true := by
  show PySem.W.alikeAll _ _ = true
  refine alikeAll_of fun x hx y hy => ?_
  obtain ⟨i, _, rfl⟩ := List.mem_map.mp hx
  obtain ⟨j, _, rfl⟩ := List.mem_map.mp hy
  rfl
theorem alike_tb (r c r' c' : Nat) (e f : Nat → Nat → Int) : PySem.W.alike (tbD r c e) (tbD r' c' f) = true := by
  show PySem.W.alikeAll _ _ = true
  refine alikeAll_of fun x hx y hy => ?_
  obtain ⟨i, _, rfl⟩ := List.mem_map.mp hx
  obtain ⟨j, _, rfl⟩ := List.mem_map.mp hy
  exact alike_row _ _ _ _
theorem dep_row (c : Nat) (f : Nat → Int) : (rowD c f).depth ≤ 1 := by
  have := depthAll_le (n := 0) (ds := (List.range c).map fun j => PyData.int (f j)) fun d hd => by
    obtain ⟨j, _, rfl⟩ := List.mem_map.mp hd
    simp [PyData.depth]
  simp only [rowD, PyData.depth]
  omega
theorem dep_tb (r c : Nat) (e : Nat → Nat → Int) : (tbD r c e).depth ≤ 2 := by
  have := depthAll_le (n := 1) (ds := (List.range r).map fun i => rowD c (e i)) fun d hd => by
    obtain ⟨i, _, rfl⟩ := List.mem_map.mp hd
    exact dep_row c (e i)
  simp only [tbD, PyData.depth]
  omega
theorem eqv_self {d : D} (h : PySem.W.alike d d = true) : PyData.eqv d d = true := PySem.W.eqv_refl_alike d h
theorem ne_tb (r c : Nat) (e : Nat → Nat → Int) : neD (tbD r c e) (tbD r c e) = some (.bool false) := by
  unfold neD
  have := dep_tb r c e
  rw [if_pos (by omega), eqv_self (alike_tb _ _ _ _ _ _)]; rfl
theorem eqv_rows {c : Nat} {f g : Nat → Int} : PyData.eqv (rowD c f) (rowD c g) = true ↔ ∀ j, j < c → f j = g j := by
  have key : ∀ l : List Nat, PyData.eqvAll (l.map fun j => PyData.int (f j)) (l.map fun j => PyData.int (g j)) = true ↔ ∀ j ∈ l, f j = g j := fun l => by
    induction l with
    | nil => simp [PyData.eqvAll]
    | cons x l ih => simp [PyData.eqvAll, eqv_int, ih]
  simp only [rowD, PyData.eqv]
  rw [key]
  simp
theorem eqv_tb {r c : Nat} {e f : Nat → Nat → Int} : PyData.eqv (tbD r c e) (tbD r c f) = true ↔ ∀ i j, i < r → j < c → e i j = f i j := by
  have key : ∀ l : List Nat, PyData.eqvAll (l.map fun i => rowD c (e i)) (l.map fun i => rowD c (f i)) = true ↔ ∀ i ∈ l, ∀ j, j < c → e i j = f i j := fun l => by
    induction l with
    | nil => simp [PyData.eqvAll]
    | cons x l ih =>
      rw [List.map_cons, List.map_cons, PyData.eqvAll, Bool.and_eq_true, ih, eqv_rows]
      simp
  simp only [tbD, PyData.eqv]
  rw [key]
  simp only [List.mem_range]
  exact ⟨fun h i j hi hj => h i hi j hj, fun h i hi j hj => h i j hi hj⟩
theorem lt_pl (p q : Pl) : C2.lt.den (plD p) (plD q) = some (.bool (lexP p q)) := by
  rw [C2.den]
  show (if PySem.W.alike (plD p) (plD q) && decide (min (plD p).depth (plD q).depth ≤ 60) then some (PyData.bool (PySem.W.dataLt (plD p) (plD q))) else none) = _
  have := dep_pl p
  rw [show PySem.W.alike (plD p) (plD q) = true from rfl, decide_eq_true (by omega)]
  show some (PyData.bool (PySem.W.dataLt (plD p) (plD q))) = _
  unfold plD
  rw [PySem.W.dataLt_ii]
  unfold lexP
  congr 2
  rw [Bool.eq_iff_iff, decide_eq_true_eq, decide_eq_true_eq]
  omega
section
variable {α : Type} {v : Nat} {it : Rho → Res (List D)} {t elt : Rho → Res D} {ρ : Rho}
theorem set_back {s : Sl} (hv : ρ[v]? = some s) (x : Sl) : (ρ.set v x).set v s = ρ := by
  rw [List.set_set]
  obtain ⟨h, e⟩ := List.getElem?_eq_some_iff.mp hv
  rw [← e]
  exact List.set_getElem_self h
theorem comp_nmV (xs : List α) (g f : α → D) {s : Sl} (hv : ρ[v]? = some s) (hs : s.isO = false) (hit : it ρ = .ok (xs.map g) ρ) (hl : xs.length ≤ 1000000) (h : ∀ x ∈ xs, elt (ρ.set v (.val (g x))) = .ok (f x) (ρ.set v (.val (g x)))) : compR (.nm v) [v] it none elt ρ = .ok (.list (xs.map f)) ρ := by
  refine compR_map (vs := [v]) (ρ1 := ρ) xs g f (fun x => ρ.set v (.val (g x))) (fun x => ρ.set v (.val (g x))) hit hl (by simp [freeB, hv, hs]) ?_ (fun x hx => ⟨?_, h x hx, ?_⟩)
  · show (ρ.set v .un).set v (ρ[v]?.getD .un) = ρ
    rw [hv]
    exact set_back hv _
  · show some ((ρ.set v .un).set v _) = _
    rw [List.set_set]
  · show (ρ.set v _).set v .un = ρ.set v .un
    rw [List.set_set]
theorem comp_nmFV (xs : List α) (g f : α → D) (q : α → Bool) {s : Sl} (hv : ρ[v]? = some s) (hs : s.isO = false) (hit : it ρ = .ok (xs.map g) ρ) (hl : xs.length ≤ 1000000) (ht : ∀ x ∈ xs, t (ρ.set v (.val (g x))) = .ok (.bool (q x)) (ρ.set v (.val (g x)))) (h : ∀ x ∈ xs, q x = true → elt (ρ.set v (.val (g x))) = .ok (f x) (ρ.set v (.val (g x)))) :
    compR (.nm v) [v] it (some t) elt ρ = .ok (.list ((xs.filter q).map f)) ρ := by
  refine compR_filter (vs := [v]) (ρ1 := ρ) xs g f q (fun x => ρ.set v (.val (g x))) (fun x => ρ.set v (.val (g x))) (fun x => ρ.set v (.val (g x))) hit hl (by simp [freeB, hv, hs]) ?_ (fun x hx => ⟨?_, ht x hx, ?_, fun z => ⟨h x hx z, ?_⟩⟩)
  · show (ρ.set v .un).set v (ρ[v]?.getD .un) = ρ
    rw [hv]
    exact set_back hv _
  · show some ((ρ.set v .un).set v _) = _
    rw [List.set_set]
  · show (ρ.set v _).set v .un = ρ.set v .un
    rw [List.set_set]
  · show (ρ.set v _).set v .un = ρ.set v .un
    rw [List.set_set]
end
theorem it_dat {Δ : Nat → Fn} {G : List (Str × D)} {a : IE} {ρ ρ1 : Rho} {x : D} {ds : List D} (h : den Δ G a ρ = .ok x ρ1) (h2 : itsD x = some ds) : denI Δ G (.dat a) ρ = .ok ds ρ1 := by
  show (den Δ G a ρ).bind _ = _
  rw [h, Res.bind_ok, h2]; rfl
/-- a table mapped entry by entry -/
theorem map_tb {Δ : Nat → Fn} {G : List (Str × D)} {a elt : IE} {o1 o2 : List (Str × Nat)} {v u : Nat} {ρ : Rho} {s s2 : Sl} {d : D} {r c : Nat} {e f : Nat → Nat → Int} (ho1 : o1.map (·.2) = [v]) (ho2 : o2.map (·.2) = [u]) (hvu : v ≠ u) (hr : r ≤ 4) (hc : c ≤ 4) (ha : den Δ G a ρ = .ok d ρ) (hd : itsD d = some ((List.range r).map fun i => rowD c (e i))) (hv : ρ[v]? = some s) (hs : s.isO = false) (hu : ρ[u]? = some s2) (hs2 : s2.isO = false)
    (h : ∀ i j, i < r → j < c → den Δ G elt ((ρ.set v (.val (rowD c (e i)))).set u (.val (.int (e i j)))) = .ok (.int (f i j)) ((ρ.set v (.val (rowD c (e i)))).set u (.val (.int (e i j))))) :
    den Δ G (.blt .tuple (.cons (.comp (.nm v) o1 (.dat a) .yes (.blt .tuple (.cons (.comp (.nm u) o2 (.dat (.var v)) .yes elt) .nil))) .nil)) ρ = .ok (tbD r c f) ρ := by
  refine den_blt (xs := [.list ((List.range r).map fun i => rowD c (f i))]) (den_one ?_) rfl
  show compR (.nm v) (o1.map (·.2)) (denI Δ G (.dat a)) none _ ρ = _
  rw [ho1]
  refine comp_nmV (List.range r) (fun i => rowD c (e i)) _ hv hs (it_dat ha hd) (by simp; omega) (fun i hi => ?_)
  have hi := List.mem_range.mp hi
  have hlv : v < ρ.length := (List.getElem?_eq_some_iff.mp hv).1
  refine den_blt (xs := [.list ((List.range c).map fun j => .int (f i j))]) (den_one ?_) rfl
  show compR (.nm u) (o2.map (·.2)) (denI Δ G (.dat (.var v))) none _ _ = _
  rw [ho2]
  refine comp_nmV (List.range c) (fun j => .int (e i j)) _ (s := s2) (by rw [List.getElem?_set_ne hvu]; exact hu) hs2 (it_dat (den_var (d := rowD c (e i)) (by rw [List.getElem?_set_self hlv])) rfl) (by simp; omega) (fun j hj => ?_)
  exact h i j hi (List.mem_range.mp hj)
end Dm
namespace Dm
open PySem PySem.Spec PyProof.Rows L2 LamX
/-! ### all numberings -/
abbrev RS := List (List Int)
def nxt (c : Nat) (number : Int) (rows : RS) (i : Nat) : Option RS := if decide ((rows.getD i []).length < c) && (decide (i = 0) || decide ((rows.getD i []).length < (rows.getD (i - 1) []).length)) then some (rows.set i (rows.getD i [] ++ [number])) else none
def stepS (c : Nat) (number : Int) (rows : RS) : List RS := (List.range rows.length).filterMap (nxt c number rows)
def lev (r c : Nat) : Nat → List RS
  | 0 => [List.replicate r []]
  | k + 1 => (lev r c k).flatMap (stepS c ((k : Int) + 1))
def rowD2 (own : List Int) : D := .tuple (own.map PyData.int)
def rowsD2 (rows : RS) : D := .tuple (rows.map rowD2)
def ltD2 (a b : RS) : Bool := PySem.W.dataLt (rowsD2 a) (rowsD2 b)
def leD2 (a b : RS) : Bool := !ltD2 b a
def srt (r c : Nat) : List RS := (lev r c (r * c)).mergeSort leD2
/-! order -/
theorem toks2 (a b : RS) : ltD2 a b = PyProof.Rows.lexLt PyProof.Rows.itemOrd (PySem.W.keyToks (rowsD2 a)) (PySem.W.keyToks (rowsD2 b)) := rfl
theorem le2_trans (a b c : RS) (h1 : leD2 a b = true) (h2 : leD2 b c = true) : leD2 a c = true := by
  unfold leD2 at *
  rw [Bool.not_eq_true'] at *
  cases h : ltD2 c a with
  | false => rfl
  | true =>
    rcases PyProof.Rows.lex_negTrans (O := PyProof.Rows.itemOrd) _ (PySem.W.keyToks (rowsD2 b)) _ h with h3 | h3
    · have h3 : ltD2 c b = true := h3
      rw [h2] at h3; cases h3
    · have h3 : ltD2 b a = true := h3
      rw [h1] at h3; cases h3
theorem le2_total (a b : RS) : (leD2 a b || leD2 b a) = true := by
  unfold leD2
  cases h1 : ltD2 b a with
  | false => rfl
  | true =>
    cases h2 : ltD2 a b with
    | false => rfl
    | true =>
      have := PyProof.Rows.lex_trans (O := PyProof.Rows.itemOrd) _ _ _ h1 h2
      rw [PyProof.Rows.lex_irrefl] at this; cases this
theorem alike2 (a b : RS) : PySem.W.alike (rowsD2 a) (rowsD2 b) = true := by
  show PySem.W.alikeAll _ _ = true
  refine alikeAll_of fun x hx y hy => ?_
  obtain ⟨p, _, rfl⟩ := List.mem_map.mp hx
  obtain ⟨q, _, rfl⟩ := List.mem_map.mp hy
  exact PySem.W.alike_ints p q
theorem eqv2 (a b : RS) : PyData.eqv (rowsD2 a) (rowsD2 b) = decide (a = b) := by
  have key : ∀ a b : RS, PyData.eqvAll (a.map rowD2) (b.map rowD2) = decide (a = b) := fun a => by
    induction a with
    | nil => intro b; cases b <;> simp [PyData.eqvAll]
    | cons x a ih =>
      intro b
      cases b with
      | nil => simp [PyData.eqvAll]
      | cons y b =>
        rw [List.map_cons, List.map_cons, PyData.eqvAll, ih b]
        have : PyData.eqv (rowD2 x) (rowD2 y) = decide (x = y) := by
          simp only [rowD2, PyData.eqv, eqv_ints]
        rw [this]
        by_cases h1 : x = y <;> by_cases h2 : a = b <;> simp [h1, h2]
  simp only [rowsD2, PyData.eqv, key]
theorem lt2_of {a b : RS} (h : leD2 a b = true) (hn : a ≠ b) : ltD2 a b = true := by
  cases h1 : ltD2 a b with
  | true => rfl
  | false =>
    exfalso
    unfold leD2 at h
    rw [Bool.not_eq_true'] at h
    have ht := PyProof.Rows.lex_total (O := PyProof.Rows.itemOrd) _ _ h1 h
    have hq := (PySem.W.toks_eqv _ _ (alike2 a b)).2 (by rw [eqv2]; exact decide_eq_false hn) [] [.inl 0]
    rw [ht, PySem.W.lex_pre, PyProof.Rows.lex_irrefl] at hq
    cases hq
theorem dep_row2 (x : List Int) : (rowD2 x).depth ≤ 1 := by
  have := depthAll_le (n := 0) (ds := x.map PyData.int) fun d hd => by
    obtain ⟨j, _, rfl⟩ := List.mem_map.mp hd
    simp [PyData.depth]
  simp only [rowD2, PyData.depth]
  omega
theorem dep2 (a : RS) : (rowsD2 a).depth ≤ 2 := by
  have := depthAll_le (n := 1) (ds := a.map rowD2) fun d hd => by
    obtain ⟨i, _, rfl⟩ := List.mem_map.mp hd
    exact dep_row2 i
  simp only [rowsD2, PyData.depth]
  omega
theorem srt_pw (r c : Nat) : (srt r c).Pairwise fun a b => leD2 a b = true := List.pairwise_mergeSort le2_trans le2_total _
theorem srt_perm (r c : Nat) : (srt r c).Perm (lev r c (r * c)) := List.mergeSort_perm _ _
theorem sorted2 {L : List RS} (h : ∀ x ∈ L, x ≠ []) : Bt.sorted.den [.list (L.map rowsD2)] = some (.list ((L.mergeSort leD2).map rowsD2)) := by
  have hs : sortable (L.map rowsD2) = true := by
    unfold sortable
    simp only [Bool.and_eq_true, Bool.or_eq_true, List.all_map, List.all_eq_true, Function.comp]
    refine ⟨⟨.inl fun x hx => ?_, fun x _ y _ => alike2 x y⟩, fun x _ => decide_eq_true (by have := dep2 x; omega)⟩
    cases x with
    | nil => exact absurd rfl (h _ hx)
    | cons a l => rfl
  show (if sortable _ = true then some (PyData.list (msortF dle _ _)) else none) = _
  rw [if_pos hs, msortF_eq _ _ (Nat.le_refl _)]
  congr 2
  exact (List.map_mergeSort (r := leD2) (s := dle) (f := rowsD2) (l := L) fun a _ b _ => rfl).symm
theorem idx2 {S : List RS} (hn : S.Nodup) {k : Nat} {x : RS} (hk : S[k]? = some x) : idxD (.list (S.map rowsD2)) (rowsD2 x) = some (.int (k : Int)) := by
  show (if (rowsD2 x).depth ≤ 60 ∧ (PyData.list (S.map rowsD2)).depth ≤ 60 then ((S.map rowsD2).findIdx? fun z => PyData.eqv z (rowsD2 x)).map fun j => PyData.int (j : Nat) else none) = _
  have h1 := dep2 x
  have h2 := depthAll_le (n := 2) (ds := S.map rowsD2) fun d hd => by
    obtain ⟨i, _, rfl⟩ := List.mem_map.mp hd
    exact dep2 i
  rw [if_pos ⟨by omega, by simp only [PyData.depth]; omega⟩]
  have : (S.map rowsD2).findIdx? (fun z => PyData.eqv z (rowsD2 x)) = some k := by
    rw [List.findIdx?_map, List.findIdx?_eq_some_iff_getElem]
    obtain ⟨hl, ep⟩ := List.getElem?_eq_some_iff.mp hk
    refine ⟨hl, ?_, fun j hj => ?_⟩
    · show PyData.eqv (rowsD2 S[k]) (rowsD2 x) = true
      rw [eqv2, ep]
      exact decide_eq_true rfl
    · show ¬ PyData.eqv (rowsD2 S[j]) (rowsD2 x) = true
      rw [eqv2]
      have := List.pairwise_iff_getElem.mp hn j k (by omega) hl hj
      rw [ep] at this
      simpa using this
  rw [this]; rfl
/-! lengths -/
theorem stepS_len (c : Nat) (n : Int) (rows : RS) : (stepS c n rows).length ≤ rows.length := by
  unfold stepS
  refine Nat.le_trans (List.length_filterMap_le _ _) ?_
  simp
theorem nxt_len {c : Nat} {n : Int} {rows x : RS} {i : Nat} (h : nxt c n rows i = some x) : x.length = rows.length := by
  unfold nxt at h
  split at h
  · cases h; rw [List.length_set]
  · cases h
theorem lev_shape {r c : Nat} : ∀ (k : Nat) (x : RS), x ∈ lev r c k → x.length = r
  | 0, x, h => by
    rw [lev, List.mem_singleton] at h
    subst h; simp
  | k + 1, x, h => by
    rw [lev, List.mem_flatMap] at h
    obtain ⟨y, hy, hx⟩ := h
    unfold stepS at hx
    obtain ⟨i, _, hi⟩ := List.mem_filterMap.mp hx
    rw [nxt_len hi]
    exact lev_shape k y hy
theorem flat_len {α β : Type} {f : α → List β} {n : Nat} : ∀ {l : List α}, (∀ x ∈ l, (f x).length ≤ n) → (l.flatMap f).length ≤ n * l.length
  | [], _ => by simp
  | x :: l, h => by
    rw [List.flatMap_cons, List.length_append, List.length_cons, Nat.mul_succ]
    have h1 := h x List.mem_cons_self
    have h2 := flat_len (l := l) fun y hy => h y (List.mem_cons_of_mem _ hy)
    omega
/-! the walk -/
section
variable {Δ Δ1 : Nat → Fn} {G : List (Str × D)}
def stL (r c : Nat) (m : Int) (a2 a3 a4 a5 a6 a7 : Sl) : Rho := [.val (szD r c), .val (.int m), a2, a3, a4, a5, a6, a7]
def bInn : ISs := (.cons (.ifs (.and (.cons (.cmp .lt (.lenv 7) (.ixv 0 (.int 1))) (.cons (.or (.cons (.cmp .eq (.var 6) (.int 0)) (.cons (.cmp .gt (.blt .len (.cons (.ixv 5 (.bin .sub (.var 6) (.int 1))) .nil)) (.lenv 7)) .nil))) .nil))) (.cons (.app 4 (.bin .add (.bin .add (.sl (.var 5) .non (.som (.var 6))) (.tup (.cons (.bin .add (.var 7) (.tup (.cons (.var 3) .nil))) .nil))) (.sl (.var 5) (.som (.bin .add (.var 6) (.int 1))) .non))) .nil) .nil) .nil)
def bMid : ISs := (.cons (.for_ (.tp (.cons (.nm 6) (.cons (.nm 7) .nil))) (.enm (.var 5)) bInn) .nil)
def bLev : ISs := (.cons (.setL 4) (.cons (.for_ (.nm 5) (.dat (.var 2)) bMid) (.cons (.set 2 (.var 4)) .nil)))
def optL (o : Option RS) : List RS := match o with
  | some x => [x]
  | none => []
theorem inn_turn {r c : Nat} {m num : Int} {rows : RS} (hl : rows.length ≤ 4) (hc : ∀ o ∈ rows, o.length ≤ 1000) {i : Nat} (hi : i < rows.length) (acc : List RS) (ha : acc.length ≤ 900000) (a2 : Sl) :
    denSs Δ1 G bInn (stL r c m a2 (.val (.int num)) (.own false (acc.map rowsD2)) (.val (rowsD2 rows)) (.val (.int i)) (.val (rowD2 (rows.getD i [])))) = .nx (stL r c m a2 (.val (.int num)) (.own false ((acc ++ optL (nxt c num rows i)).map rowsD2)) (.val (rowsD2 rows)) (.val (.int i)) (.val (rowD2 (rows.getD i [])))) := by
  let own := rows.getD i []
  let S := stL r c m a2 (.val (.int num)) (.own false (acc.map rowsD2)) (.val (rowsD2 rows)) (.val (.int i)) (.val (rowD2 own))
  have hown : own ∈ rows := by
    show rows.getD i [] ∈ rows
    rw [List.getD_eq_getElem?_getD, List.getElem?_eq_getElem hi]
    exact List.getElem_mem hi
  have hol : own.length ≤ 1000 := hc _ hown
  have hlen : den Δ1 G (.lenv 7) S = .ok (.int (own.length : Int)) S := by
    show lenvR 7 S = _
    show lift (some (PyData.int ((own.map PyData.int).length : Nat))) S = _
    rw [List.length_map]; rfl
  have hcond : den Δ1 G (.and (.cons (.cmp .lt (.lenv 7) (.ixv 0 (.int 1))) (.cons (.or (.cons (.cmp .eq (.var 6) (.int 0)) (.cons (.cmp .gt (.blt .len (.cons (.ixv 5 (.bin .sub (.var 6) (.int 1))) .nil)) (.lenv 7)) .nil))) .nil))) S = .ok (.bool (decide (own.length < c) && (decide (i = 0) || decide (own.length < (rows.getD (i - 1) []).length)))) S := by
    have h1 : den Δ1 G (.cmp .lt (.lenv 7) (.ixv 0 (.int 1))) S = .ok (.bool (decide (own.length < c))) S := by
      have := den_lt (Δ := Δ1) (G := G) (a := .lenv 7) (b := .ixv 0 (.int 1)) (ρ := S) (ρ1 := S) (ρ2 := S) (i := (own.length : Int)) (j := (c : Int)) hlen rfl
      rw [this]
      congr 2
      rw [Bool.eq_iff_iff, decide_eq_true_eq, decide_eq_true_eq]; omega
    have h2 : den Δ1 G (.cmp .eq (.var 6) (.int 0)) S = .ok (.bool (decide (i = 0))) S := by
      have := den_eqi (Δ := Δ1) (G := G) (a := .var 6) (b := .int 0) (ρ := S) (ρ1 := S) (ρ2 := S) (i := (i : Int)) (j := 0) rfl rfl
      rw [this]
      congr 2
      rw [Bool.eq_iff_iff, decide_eq_true_eq, decide_eq_true_eq]; omega
    refine den_and2 (v := decide (own.length < c)) h1 fun _ => den_or2 (v := decide (i = 0)) h2 fun h0 => ?_
    have hi0 : i ≠ 0 := by simpa using h0
    have hix : den Δ1 G (.ixv 5 (.bin .sub (.var 6) (.int 1))) S = .ok (rowD2 (rows.getD (i - 1) [])) S := by
      refine den_ixv (d0 := rowsD2 rows) (y := .int ((i : Int) - 1)) (den_subi rfl rfl) rfl rfl ?_
      show atI (rows.map rowD2) ((i : Int) - 1) = _
      rw [show ((i : Int) - 1) = ((i - 1 : Nat) : Int) by omega, atI_nat, List.getElem?_map, List.getElem?_eq_getElem (by omega), List.getD_eq_getElem?_getD, List.getElem?_eq_getElem (by omega)]; rfl
    have hlb : den Δ1 G (.blt .len (.cons (.ixv 5 (.bin .sub (.var 6) (.int 1))) .nil)) S = .ok (.int ((rows.getD (i - 1) []).length : Int)) S := by
      refine den_blt (den_one hix) ?_
      show some (PyData.int ((((rows.getD (i - 1) []).map PyData.int).length : Nat) : Int)) = _
      rw [List.length_map]
    have := den_gt (Δ := Δ1) (G := G) (a := .blt .len (.cons (.ixv 5 (.bin .sub (.var 6) (.int 1))) .nil)) (b := .lenv 7) (ρ := S) (ρ1 := S) (ρ2 := S) hlb hlen
    rw [this]
    congr 2
    rw [Bool.eq_iff_iff, decide_eq_true_eq, decide_eq_true_eq]; omega
  unfold bInn
  rw [ss_nx (ρ1 := stL r c m a2 (.val (.int num)) (.own false ((acc ++ optL (nxt c num rows i)).map rowsD2)) (.val (rowsD2 rows)) (.val (.int i)) (.val (rowD2 own))) ?h]
  · rfl
  case h =>
    rw [s_if hcond]
    have e : nxt c num rows i = if decide (own.length < c) && (decide (i = 0) || decide (own.length < (rows.getD (i - 1) []).length)) then some (rows.set i (own ++ [num])) else none := rfl
    rw [e]
    cases decide (own.length < c) && (decide (i = 0) || decide (own.length < (rows.getD (i - 1) []).length)) with
    | false =>
      rw [if_neg (by decide), if_neg (by decide)]
      show SR.nx S = _
      rw [show optL none = [] from rfl, List.append_nil]
    | true =>
      rw [if_pos rfl, if_pos rfl]
      have g : den Δ1 G (.bin .add (.bin .add (.sl (.var 5) .non (.som (.var 6))) (.tup (.cons (.bin .add (.var 7) (.tup (.cons (.var 3) .nil))) .nil))) (.sl (.var 5) (.som (.bin .add (.var 6) (.int 1))) .non)) S = .ok (rowsD2 (rows.set i (own ++ [num]))) S := by
        have q1 : den Δ1 G (.sl (.var 5) .non (.som (.var 6))) S = .ok (.tuple ((rows.map rowD2).take i)) S := den_slto (j := i) (ρ1 := S) rfl rfl
        have q2 : den Δ1 G (.bin .add (.var 7) (.tup (.cons (.var 3) .nil))) S = .ok (.tuple (own.map PyData.int ++ [.int num])) S := den_addt (ρ1 := S) (xs := own.map PyData.int) (ys := [.int num]) rfl rfl (by simp; omega)
        have q3 : den Δ1 G (.sl (.var 5) (.som (.bin .add (.var 6) (.int 1))) .non) S = .ok (.tuple ((rows.map rowD2).drop (i + 1))) S := den_slfrom (j := i + 1) (ρ1 := S) rfl (by
          have : (((i + 1 : Nat)) : Int) = (i : Int) + 1 := by omega
          rw [this]; exact den_addi rfl rfl)
        have q4 := den_addt (den_addt q1 (den_tup (den_one q2)) (by simp; omega)) q3 (by simp; omega)
        rw [q4]
        congr 1
        show PyData.tuple _ = PyData.tuple ((rows.set i (own ++ [num])).map rowD2)
        rw [List.set_eq_take_append_cons_drop, if_pos hi, List.map_append, List.map_cons, List.map_take, List.map_drop, List.append_assoc]
        have : rowD2 (own ++ [num]) = .tuple (own.map PyData.int ++ [.int num]) := by unfold rowD2; rw [List.map_append]; rfl
        rw [this]; rfl
      rw [ss_nx (s_app (ρ1 := S) (f := false) (xs := acc.map rowsD2) (d := rowsD2 (rows.set i (own ++ [num]))) rfl g rfl (by simp; omega))]
      rw [show optL (some (rows.set i (own ++ [num]))) = [rows.set i (own ++ [num])] from rfl, List.map_append]
      rfl
theorem fm_take {f : Nat → Option RS} {n t : Nat} (h : t < n) : (List.range (t + 1)).filterMap f = (List.range t).filterMap f ++ optL (f t) := by
  rw [List.range_succ, List.filterMap_append]
  congr 1
  cases hf : f t <;> simp [optL, hf]
theorem mid_turn {r c : Nat} {m num : Int} {rows : RS} (hl : rows.length ≤ 4) (hc : ∀ o ∈ rows, o.length ≤ 1000) (acc : List RS) (ha : acc.length ≤ 800000) (a2 a6 a7 : Sl) :
    ∃ b6 b7, denSs Δ1 G bMid (stL r c m a2 (.val (.int num)) (.own false (acc.map rowsD2)) (.val (rowsD2 rows)) a6 a7) = .nx (stL r c m a2 (.val (.int num)) (.own false ((acc ++ stepS c num rows).map rowsD2)) (.val (rowsD2 rows)) b6 b7) := by
  let S := stL r c m a2 (.val (.int num)) (.own false (acc.map rowsD2)) (.val (rowsD2 rows)) a6 a7
  have hen : enumD 0 (rows.map rowD2) = (List.range rows.length).map fun i => .tuple [.int ((i : Nat) : Int), rowD2 (rows.getD i [])] := by
    rw [enumD_map]
    apply List.map_congr_left
    intro i hi
    have hi := List.mem_range.mp hi
    rw [List.getElem?_eq_getElem hi, List.getD_eq_getElem?_getD, List.getElem?_eq_getElem hi, Nat.zero_add]; rfl
  obtain ⟨ρ', e3, hI⟩ := for_inv (p := .tp (.cons (.nm 6) (.cons (.nm 7) .nil))) (body := denSs Δ1 G bInn) (fun i : Nat => PyData.tuple [.int (i : Int), rowD2 (rows.getD i [])]) (fun t ρ => ∃ b6 b7, ρ = stL r c m a2 (.val (.int num)) (.own false ((acc ++ (List.range t).filterMap (nxt c num rows)).map rowsD2)) (.val (rowsD2 rows)) b6 b7) (List.range rows.length) S ⟨a6, a7, by rw [List.range_zero, List.filterMap_nil, List.append_nil]⟩ (fun t y ρ hy hI => by
    obtain ⟨ht, hy'⟩ := List.getElem?_eq_some_iff.mp hy
    rw [List.getElem_range] at hy'
    rw [List.length_range] at ht
    subst hy'
    obtain ⟨b6, b7, rfl⟩ := hI
    have hlf : ((List.range t).filterMap (nxt c num rows)).length ≤ t := by
      refine Nat.le_trans (List.length_filterMap_le _ _) ?_
      simp
    have h := inn_turn (Δ1 := Δ1) (G := G) (r := r) (c := c) (m := m) (num := num) hl hc ht (acc ++ (List.range t).filterMap (nxt c num rows)) (by rw [List.length_append]; omega) a2
    rw [List.append_assoc, ← fm_take ht] at h
    exact ⟨_, _, rfl, h, _, _, rfl⟩)
  rw [List.length_range] at hI
  obtain ⟨b6, b7, rfl⟩ := hI
  refine ⟨b6, b7, ?_⟩
  unfold bMid
  rw [ss_cons, s_forE (d := rowsD2 rows) (ds := rows.map rowD2) (ρ1 := S) rfl rfl, hen, e3]
  rfl
theorem lev_turn {r c : Nat} {m num : Int} (L : List RS) (hl : ∀ x ∈ L, x.length ≤ 4) (hc : ∀ x ∈ L, ∀ o ∈ x, o.length ≤ 1000) (hL : L.length ≤ 1000) (a4 a5 a6 a7 : Sl) :
    ∃ b4 b5 b6 b7, denSs Δ1 G bLev (stL r c m (.val (.list (L.map rowsD2))) (.val (.int num)) a4 a5 a6 a7) = .nx (stL r c m (.val (.list ((L.flatMap (stepS c num)).map rowsD2))) (.val (.int num)) b4 b5 b6 b7) := by
  let S := stL r c m (.val (.list (L.map rowsD2))) (.val (.int num)) (.own false []) a5 a6 a7
  have hfl : ∀ l : List RS, (∀ x ∈ l, x ∈ L) → (l.flatMap (stepS c num)).length ≤ 4 * l.length := fun l hs => flat_len fun x hx => Nat.le_trans (stepS_len c num x) (hl x (hs x hx))
  obtain ⟨ρ', e3, hI⟩ := for_inv (p := .nm 5) (body := denSs Δ1 G bMid) rowsD2 (fun t ρ => ∃ b5 b6 b7, ρ = stL r c m (.val (.list (L.map rowsD2))) (.val (.int num)) (.own false (((L.take t).flatMap (stepS c num)).map rowsD2)) b5 b6 b7) L S ⟨a5, a6, a7, rfl⟩ (fun t y ρ hy hI => by
    obtain ⟨ht, hy'⟩ := List.getElem?_eq_some_iff.mp hy
    obtain ⟨b5, b6, b7, rfl⟩ := hI
    have hm : y ∈ L := List.mem_of_getElem? hy
    have h1 := hfl (L.take t) fun x hx => List.mem_of_mem_take hx
    rw [List.length_take] at h1
    obtain ⟨c6, c7, h⟩ := mid_turn (Δ1 := Δ1) (G := G) (r := r) (c := c) (m := m) (num := num) (hl y hm) (hc y hm) ((L.take t).flatMap (stepS c num)) (by omega) (.val (.list (L.map rowsD2))) b6 b7
    have e : (L.take t).flatMap (stepS c num) ++ stepS c num y = (L.take (t + 1)).flatMap (stepS c num) := by
      rw [List.take_succ, hy, List.flatMap_append]
      simp
    rw [e] at h
    exact ⟨_, _, rfl, h, _, _, _, rfl⟩)
  rw [List.take_length] at hI
  obtain ⟨b5, b6, b7, rfl⟩ := hI
  refine ⟨.val (.list ((L.flatMap (stepS c num)).map rowsD2)), b5, b6, b7, ?_⟩
  unfold bLev
  rw [ss_nx (s_setL)]
  show denSs Δ1 G _ S = _
  rw [ss_cons, s_forD (d := .list (L.map rowsD2)) (ds := L.map rowsD2) (ρ1 := S) rfl rfl, e3, SR.seq_nx]
  rfl
theorem s_par2 {i j : Nat} {a b : IE} {ρ ρ1 ρ2 : Rho} {x y : D} (h1 : den Δ1 G a ρ = .ok x ρ1) (h2 : den Δ1 G b ρ1 = .ok y ρ2) : denS Δ1 G (.par i j (.val a (.val b .nil))) ρ = .nx (putF [i, j] [.val x, .val y] ρ2) := by
  show putR [i, j] (consF (valF (den Δ1 G a)) (consF (valF (den Δ1 G b)) (fun ρ => .ok [] ρ))) ρ = _
  unfold putR consF valF
  simp only [h1, h2, Res.bind_ok]
  rfl
def SpAllNum (Δ : Nat → Fn) : Prop := ∀ (r c : Nat) ρ, 1 ≤ r ∧ r ≤ 4 → 1 ≤ c ∧ c ≤ 4 → (∀ k, k ≤ r * c → (lev r c k).length ≤ 1000) → callD (Δ i_all_numberings) false [.dat (szD r c)] ρ = .ok (.list ((srt r c).map rowsD2)) ρ
theorem lev_row {r c : Nat} : ∀ (k : Nat) (x : RS), x ∈ lev r c k → ∀ o ∈ x, o.length ≤ k
  | 0, x, h, o, ho => by
    rw [lev, List.mem_singleton] at h
    subst h
    rw [List.eq_of_mem_replicate ho]; exact Nat.le_refl _
  | k + 1, x, h, o, ho => by
    rw [lev, List.mem_flatMap] at h
    obtain ⟨y, hy, hx⟩ := h
    unfold stepS at hx
    obtain ⟨i, hi', hi⟩ := List.mem_filterMap.mp hx
    have hi' := List.mem_range.mp hi'
    unfold nxt at hi
    split at hi
    · cases hi
      rcases List.mem_or_eq_of_mem_set ho with h1 | h1
      · have := lev_row k y hy o h1; omega
      · subst h1
        have : y.getD i [] ∈ y := by
          rw [List.getD_eq_getElem?_getD, List.getElem?_eq_getElem hi']
          exact List.getElem_mem hi'
        have := lev_row k y hy _ this
        rw [List.length_append]
        simp only [List.length_cons, List.length_nil]
        omega
    · cases hi
theorem mul_tup (xs : List D) (k : Int) (h : xs ≠ [] ∧ 1 ≤ k ∧ k ≤ 1000 ∧ xs.length ≤ 1000) : mulD (.tuple xs) (.int k) = some (.tuple (List.replicate k.toNat xs).flatten) := by
  unfold mulD
  exact if_pos h
theorem rep_rows (r : Nat) : (List.replicate r ([] : List Int)).map rowD2 = (List.replicate r [PyData.tuple []]).flatten := by
  induction r with
  | zero => rfl
  | succ n ih => rw [List.replicate_succ, List.replicate_succ, List.map_cons, List.flatten_cons, ih]; rfl
theorem sp_allnum (h : Δ i_all_numberings = F_all_numberings.fn Δ1 G) : SpAllNum Δ := fun r c ρ hr hc hB => by
  refine call_rt h rfl (ds := [szD r c]) ?_ ρ
  have hm16 : r * c ≤ 16 := Nat.mul_le_mul hr.2 hc.2
  have hmI : (r : Int) * c = ((r * c : Nat) : Int) := by rw [Int.natCast_mul]
  let R0 : Rho := [.val (szD r c), .un, .un, .un, .un, .un, .un, .un]
  let S0 := stL r c ((r * c : Nat) : Int) (.val (.list ((lev r c 0).map rowsD2))) .un .un .un .un .un
  show Rt 1 _ (denSs Δ1 G (.cons (.par 1 2 (.val (.bin .mul (.ixv 0 (.int 0)) (.ixv 0 (.int 1))) (.val (.lst (.cons (.bin .mul (.tup (.cons (.tup .nil) .nil)) (.ixv 0 (.int 0))) .nil)) .nil))) (.cons (.for_ (.nm 3) (.rng2 (.int 1) (.bin .add (.var 1) (.int 1))) bLev) (.cons (.ret (.blt .sorted (.cons (.var 2) .nil))) .nil))) R0)
  have g1 : den Δ1 G (.bin .mul (.ixv 0 (.int 0)) (.ixv 0 (.int 1))) R0 = .ok (.int ((r * c : Nat) : Int)) R0 := by
    rw [← hmI]
    have hm2 : B2.mul.den (.int (r : Int)) (.int (c : Int)) = some (.int ((r : Int) * c)) := by
      rw [B2.den]
      refine mul_r _ _ ?_
      rw [decide_eq_true (by omega), decide_eq_true (by omega)]; rfl
    have g0 : den Δ1 G (.ixv 0 (.int 0)) R0 = .ok (.int (r : Int)) R0 := rfl
    have g1 : den Δ1 G (.ixv 0 (.int 1)) R0 = .ok (.int (c : Int)) R0 := rfl
    exact den_bin (o := .mul) g0 g1 hm2
  have g2 : den Δ1 G (.lst (.cons (.bin .mul (.tup (.cons (.tup .nil) .nil)) (.ixv 0 (.int 0))) .nil)) R0 = .ok (.list ((lev r c 0).map rowsD2)) R0 := by
    refine den_lst (den_one (den_bin (o := .mul) (x := .tuple [.tuple []]) (y := .int (r : Int)) (ρ1 := R0) (ρ2 := R0) rfl rfl ?_))
    have hm := mul_tup [PyData.tuple []] (r : Int) ⟨by simp, by omega, by omega, by simp⟩
    have hr' : (r : Int).toNat = r := by omega
    rw [hr', ← rep_rows] at hm
    rw [B2.den]
    exact hm
  have h12 : denS Δ1 G (.par 1 2 (.val (.bin .mul (.ixv 0 (.int 0)) (.ixv 0 (.int 1))) (.val (.lst (.cons (.bin .mul (.tup (.cons (.tup .nil) .nil)) (.ixv 0 (.int 0))) .nil)) .nil))) R0 = .nx S0 := by
    rw [s_par2 g1 g2]
    rfl
  rw [ss_nx h12]
  rw [ss_cons, s_for2 (a := 1) (b := r * c + 1) (ρ1 := S0) (ρ2 := S0) rfl (by
    have : (((r * c + 1 : Nat)) : Int) = ((r * c : Nat) : Int) + 1 := by omega
    rw [this]; exact den_addi rfl rfl) (by omega) (by omega)]
  obtain ⟨ρ', e3, hI⟩ := for_inv (p := .nm 3) (body := denSs Δ1 G bLev) (fun k : Nat => PyData.int ((1 + k : Nat) : Int)) (fun t ρ => ∃ b3 b4 b5 b6 b7, ρ = stL r c ((r * c : Nat) : Int) (.val (.list ((lev r c t).map rowsD2))) b3 b4 b5 b6 b7) (List.range (r * c + 1 - 1)) S0 ⟨_, _, _, _, _, rfl⟩ (fun t y ρ hy hI => by
    obtain ⟨ht, hy'⟩ := List.getElem?_eq_some_iff.mp hy
    rw [List.getElem_range] at hy'
    rw [List.length_range] at ht
    subst hy'
    obtain ⟨b3, b4, b5, b6, b7, rfl⟩ := hI
    obtain ⟨c4, c5, c6, c7, h⟩ := lev_turn (Δ1 := Δ1) (G := G) (r := r) (c := c) (m := ((r * c : Nat) : Int)) (num := ((1 + t : Nat) : Int)) (lev r c t) (fun x hx => by rw [lev_shape t x hx]; exact hr.2) (fun x hx o ho => by have := lev_row t x hx o ho; omega) (hB t (by omega)) b4 b5 b6 b7
    have e : (lev r c t).flatMap (stepS c ((1 + t : Nat) : Int)) = lev r c (t + 1) := by
      rw [lev, show (((1 + t : Nat)) : Int) = (t : Int) + 1 by omega]
    rw [e] at h
    exact ⟨_, _, rfl, h, _, _, _, _, _, rfl⟩)
  rw [List.length_range, Nat.add_sub_cancel] at hI
  obtain ⟨b3, b4, b5, b6, b7, rfl⟩ := hI
  rw [e3, SR.seq_nx]
  have hs := sorted2 (L := lev r c (r * c)) fun x hx z => by
    have := lev_shape _ x hx
    rw [z] at this
    simp at this
    omega
  let S1 := stL r c ((r * c : Nat) : Int) (.val (.list ((lev r c (r * c)).map rowsD2))) b3 b4 b5 b6 b7
  refine Rt.of (ρ := S1) ?_ (by simp [S1, stL])
  exact ss_rt (s_ret (den_blt (ρ1 := S1) (den_one rfl) hs))
end
end Dm
namespace Dm
open PySem PySem.Spec PyProof.Rows L2 LamX
/-! ### all numberings, by the kernel -/
def sizes12 : List (Nat × Nat) := (allP 4 4).filterMap fun p => if (p.1 + 1) * (p.2 + 1) ≤ 12 then some (p.1 + 1, p.2 + 1) else none
theorem mem_12 {r c : Nat} (hr : 1 ≤ r ∧ r ≤ 4) (hc : 1 ≤ c ∧ c ≤ 4) (h : r * c ≤ 12) : (r, c) ∈ sizes12 := by
  unfold sizes12
  rw [List.mem_filterMap]
  refine ⟨(r - 1, c - 1), mem_allP.mpr ⟨by show r - 1 < 4; omega, by show c - 1 < 4; omega⟩, ?_⟩
  rw [show r - 1 + 1 = r by omega, show c - 1 + 1 = c by omega, if_pos h]
/-- all levels' lengths, one after the other -/
def lens (r c : Nat) : Nat → List RS → Nat → List Nat
  | 0, L, _ => [L.length]
  | n + 1, L, k => L.length :: lens r c n (L.flatMap (stepS c ((k : Int) + 1))) (k + 1)
theorem lens_get (r c : Nat) : ∀ (n k j : Nat), j ≤ n → (lev r c (k + j)).length ∈ lens r c n (lev r c k) k
  | 0, k, j, h => by
    obtain rfl : j = 0 := by omega
    simp [lens]
  | n + 1, k, 0, _ => by simp [lens]
  | n + 1, k, j + 1, h => by
    unfold lens
    have := lens_get r c n (k + 1) j (by omega)
    rw [show k + 1 + j = k + (j + 1) by omega] at this
    exact List.mem_cons_of_mem _ this
theorem lens_ok : (sizes12.all fun p => (lens p.1 p.2 (p.1 * p.2) (lev p.1 p.2 0) 0).all fun n => Nat.ble n 1000) = true := by decide +kernel
theorem lev_few {r c : Nat} (hr : 1 ≤ r ∧ r ≤ 4) (hc : 1 ≤ c ∧ c ≤ 4) (h : r * c ≤ 12) (k : Nat) (hk : k ≤ r * c) : (lev r c k).length ≤ 1000 := by
  have h1 := List.all_eq_true.mp lens_ok _ (mem_12 hr hc h)
  have h2 := lens_get r c (r * c) 0 k hk
  rw [Nat.zero_add] at h2
  exact Nat.le_of_ble_eq_true (List.all_eq_true.mp h1 _ h2)
def eOf (rows : RS) (i j : Nat) : Int := (rows.getD i []).getD j 0
def memI (x : Int) : List Int → Bool
  | [] => false
  | y :: l => decide (y = x) || memI x l
def nodI : List Int → Bool
  | [] => true
  | x :: l => !memI x l && nodI l
theorem memI_iff {x : Int} : ∀ {l : List Int}, memI x l = true ↔ x ∈ l
  | [] => by simp [memI]
  | y :: l => by
    unfold memI
    rw [Bool.or_eq_true, decide_eq_true_eq, memI_iff (l := l), List.mem_cons]
    exact ⟨fun h => h.elim (fun h => .inl h.symm) .inr, fun h => h.elim (fun h => .inl h.symm) .inr⟩
theorem nodI_iff : ∀ {l : List Int}, nodI l = true → l.Nodup
  | [], _ => List.nodup_nil
  | x :: l, h => by
    unfold nodI at h
    simp only [Bool.and_eq_true, Bool.not_eq_true'] at h
    refine List.nodup_cons.mpr ⟨fun hm => ?_, nodI_iff h.2⟩
    rw [memI_iff.mpr hm] at h
    cases h.1
def goodR (r c : Nat) (rows : RS) : Bool := (Nat.beq rows.length r && rows.all fun o => Nat.beq o.length c) && (risF r c (eOf rows) && (nodI (entsL r c (eOf rows)) && ((entsL r c (eOf rows)).all (fun x => memI x (upTo1 (r * c))) && (upTo1 (r * c)).all fun x => memI x (entsL r c (eOf rows)))))
theorem good_ok : (sizes12.all fun p => (lev p.1 p.2 (p.1 * p.2)).all (goodR p.1 p.2)) = true := by decide +kernel
def codeR (rows : RS) : Nat := rows.foldl (fun a o => o.foldl (fun a x => a * 32 + x.toNat) a) 0
def memN (x : Nat) : List Nat → Bool
  | [] => false
  | y :: l => Nat.beq y x || memN x l
def nodN : List Nat → Bool
  | [] => true
  | x :: l => !memN x l && nodN l
theorem memN_iff {x : Nat} : ∀ {l : List Nat}, memN x l = true ↔ x ∈ l
  | [] => by simp [memN]
  | y :: l => by
    unfold memN
    rw [Bool.or_eq_true, memN_iff (l := l), List.mem_cons]
    exact ⟨fun h => h.elim (fun h => .inl (Nat.eq_of_beq_eq_true h).symm) .inr, fun h => h.elim (fun h => .inl (h ▸ Nat.beq_refl y)) .inr⟩
theorem nodN_iff : ∀ {l : List Nat}, nodN l = true → l.Nodup
  | [], _ => List.nodup_nil
  | x :: l, h => by
    unfold nodN at h
    simp only [Bool.and_eq_true, Bool.not_eq_true'] at h
    refine List.nodup_cons.mpr ⟨fun hm => ?_, nodN_iff h.2⟩
    rw [memN_iff.mpr hm] at h
    cases h.1
theorem nod_ok : (sizes12.all fun p => nodN ((lev p.1 p.2 (p.1 * p.2)).map codeR)) = true := by decide +kernel
end Dm
namespace Dm
open PySem PySem.Spec PyProof.Rows L2 LamX
/-! ### each numbering is met -/
def rowF (c : Nat) (f : Nat → Int) : List Int := (List.range c).map f
def preR (r c : Nat) (e : Nat → Nat → Int) (k : Int) : RS := (List.range r).map fun i => (rowF c (e i)).filter fun x => decide (x ≤ k)
theorem range_split {c j : Nat} (h : j ≤ c) : List.range c = List.range j ++ (List.range (c - j)).map fun i => j + i := by
  have := List.range_add (n := j) (m := c - j)
  rwa [show j + (c - j) = c by omega] at this
theorem pre_take {c : Nat} {f : Nat → Int} (hf : ∀ a b, a < b → b < c → f a < f b) {j : Nat} {k : Int} (hj : j ≤ c) (h1 : ∀ a, a < j → f a ≤ k) (h2 : j < c → k < f j) : (rowF c f).filter (fun x => decide (x ≤ k)) = rowF j f := by
  unfold rowF
  rw [range_split hj, List.map_append, List.filter_append]
  have e1 : ((List.range j).map f).filter (fun x => decide (x ≤ k)) = (List.range j).map f := by
    rw [List.filter_eq_self]
    intro x hx
    obtain ⟨a, ha, rfl⟩ := List.mem_map.mp hx
    exact decide_eq_true (h1 a (List.mem_range.mp ha))
  have e2 : (((List.range (c - j)).map fun i => j + i).map f).filter (fun x => decide (x ≤ k)) = [] := by
    rw [List.filter_eq_nil_iff]
    intro x hx hd
    obtain ⟨b, hb, rfl⟩ := List.mem_map.mp hx
    obtain ⟨i, hi, rfl⟩ := List.mem_map.mp hb
    have hi := List.mem_range.mp hi
    have hd := of_decide_eq_true hd
    have h3 := h2 (by omega)
    rcases Nat.eq_zero_or_pos i with h0 | h0
    · subst h0; rw [Nat.add_zero] at hd; omega
    · have := hf j (j + i) (by omega) (by omega); omega
  rw [e1, e2, List.append_nil]
theorem pre_len {c : Nat} {f : Nat → Int} {j : Nat} {k : Int} (hj : j ≤ c) (h1 : ∀ a, a < j → f a ≤ k) : j ≤ ((rowF c f).filter fun x => decide (x ≤ k)).length := by
  unfold rowF
  rw [range_split hj, List.map_append, List.filter_append, List.length_append]
  have e1 : ((List.range j).map f).filter (fun x => decide (x ≤ k)) = (List.range j).map f := by
    rw [List.filter_eq_self]
    intro x hx
    obtain ⟨a, ha, rfl⟩ := List.mem_map.mp hx
    exact decide_eq_true (h1 a (List.mem_range.mp ha))
  rw [e1, List.length_map, List.length_range]
  omega
section
variable {r c : Nat} {e : Nat → Nat → Int}
theorem pre_get {k : Int} {i : Nat} (hi : i < r) : (preR r c e k).getD i [] = (rowF c (e i)).filter fun x => decide (x ≤ k) := by
  unfold preR
  rw [List.getD_eq_getElem?_getD, List.getElem?_map, List.getElem?_range hi]; rfl
theorem pre_mem (h : Rising r c e) (hp : (entsL r c e).Perm (upTo1 (r * c))) : ∀ k : Nat, k ≤ r * c → preR r c e k ∈ lev r c k
  | 0, _ => by
    rw [lev, List.mem_singleton]
    unfold preR
    have : ∀ i ∈ List.range r, (rowF c (e i)).filter (fun x => decide (x ≤ ((0 : Nat) : Int))) = [] := by
      intro i hi
      rw [List.filter_eq_nil_iff]
      intro x hx hd
      obtain ⟨j, hj, rfl⟩ := List.mem_map.mp hx
      have hm : e i j ∈ entsL r c e := List.mem_map.mpr ⟨(i, j), mem_allP.mpr ⟨List.mem_range.mp hi, List.mem_range.mp hj⟩, rfl⟩
      have := hp.mem_iff.mp hm
      unfold upTo1 at this
      obtain ⟨n, _, hn⟩ := List.mem_map.mp this
      have hd := of_decide_eq_true hd
      omega
    rw [List.map_congr_left this]
    rw [List.map_const', List.length_range]
  | k + 1, hk => by
    have ih := pre_mem h hp k (by omega)
    rw [lev, List.mem_flatMap]
    refine ⟨_, ih, ?_⟩
    have hm : ((k : Int) + 1) ∈ upTo1 (r * c) := List.mem_map.mpr ⟨k, List.mem_range.mpr (by omega), rfl⟩
    obtain ⟨p, hpp, hv⟩ := List.mem_map.mp (hp.mem_iff.mpr hm)
    obtain ⟨i, j⟩ := p
    have hij := mem_allP.mp hpp
    have hi : i < r := hij.1
    have hj : j < c := hij.2
    have hv : e i j = (k : Int) + 1 := hv
    have uniq : ∀ i' j', i' < r → j' < c → e i' j' = (k : Int) + 1 → i' = i := by
      intro i' j' hi' hj' hv'
      apply Classical.byContradiction
      intro hne
      have nd : (entsL r c e).Nodup := hp.nodup_iff.mpr (by
        unfold upTo1
        rw [List.Nodup, List.pairwise_map]
        exact List.pairwise_lt_range.imp fun {a b} h => by omega)
      have hcount : ∀ {l : List Pl}, (l.map fun p => e p.1 p.2).Nodup → ∀ {a b : Pl}, a ∈ l → b ∈ l → e a.1 a.2 = e b.1 b.2 → a = b := fun {l} => by
        induction l with
        | nil => intro _ a b ha; cases ha
        | cons x l ih =>
          intro hn a b ha hb hab
          rw [List.map_cons, List.nodup_cons] at hn
          rcases List.mem_cons.mp ha with ea | ha2
          · rcases List.mem_cons.mp hb with eb | hb2
            · rw [ea, eb]
            · subst ea
              exact absurd (List.mem_map.mpr ⟨b, hb2, hab.symm⟩) hn.1
          · rcases List.mem_cons.mp hb with eb | hb2
            · subst eb
              exact absurd (List.mem_map.mpr ⟨a, ha2, hab⟩) hn.1
            · exact ih hn.2 ha2 hb2 hab
      have := hcount nd (mem_allP.mpr (show inSz r c (i', j') from ⟨hi', hj'⟩)) hpp (hv'.trans hv.symm)
      exact hne (congrArg Prod.fst this)
    have hrow : ∀ i', i' < r → ∀ a b, a < b → b < c → e i' a < e i' b := fun i' hi' a b hab hb => by
      have := mono_row h (i := i') (j := a) hi' (b - a) (by omega)
      rw [show a + (b - a) = b by omega] at this
      omega
    have own : (preR r c e k).getD i [] = rowF j (e i) := by
      rw [pre_get hi]
      refine pre_take (hrow i hi) (Nat.le_of_lt hj) (fun a ha => ?_) (fun _ => by omega)
      have := hrow i hi a j ha hj
      omega
    have hlen : (preR r c e k).length = r := by unfold preR; rw [List.length_map, List.length_range]
    unfold stepS
    rw [List.mem_filterMap]
    refine ⟨i, List.mem_range.mpr (by rw [hlen]; exact hi), ?_⟩
    unfold nxt
    rw [own]
    have hl : (rowF j (e i)).length = j := by unfold rowF; rw [List.length_map, List.length_range]
    rw [hl, decide_eq_true hj]
    have hc2 : (decide (i = 0) || decide (j < ((preR r c e k).getD (i - 1) []).length)) = true := by
      by_cases h0 : i = 0
      · rw [decide_eq_true h0]; rfl
      · rw [Bool.or_eq_true]
        right
        rw [pre_get (by omega)]
        have := pre_len (c := c) (f := e (i - 1)) (j := j + 1) (k := (k : Int)) (by omega) (fun a ha => by
          have h1 := h.col (i - 1) a (by omega) (by omega)
          rw [show i - 1 + 1 = i by omega] at h1
          rcases Nat.lt_or_ge a j with h2 | h2
          · have := hrow i hi a j h2 hj; omega
          · rw [show a = j by omega] at h1 ⊢; omega)
        exact decide_eq_true (by omega)
    rw [hc2, Bool.and_self, if_pos rfl]
    congr 1
    apply List.ext_getElem?
    intro i'
    by_cases hi' : i' < r
    · have e1 : (preR r c e ((k + 1 : Nat) : Int))[i']? = some ((rowF c (e i')).filter fun x => decide (x ≤ ((k + 1 : Nat) : Int))) := by
        unfold preR
        rw [List.getElem?_map, List.getElem?_range hi']; rfl
      have e0 : (preR r c e (k : Int))[i']? = some ((rowF c (e i')).filter fun x => decide (x ≤ (k : Int))) := by
        unfold preR
        rw [List.getElem?_map, List.getElem?_range hi']; rfl
      rw [e1]
      by_cases hii : i = i'
      · subst hii
        rw [List.getElem?_set_self (by rw [hlen]; exact hi)]
        congr 1
        rw [pre_take (j := j + 1) (hrow i hi) (by omega) (fun a ha => ?_) (fun hj1 => ?_)]
        · unfold rowF
          rw [List.range_succ, List.map_append, ← hv]; rfl
        · rcases Nat.lt_or_ge a j with h2 | h2
          · have := hrow i hi a j h2 hj; omega
          · rw [show a = j by omega]; omega
        · have := hrow i hi j (j + 1) (by omega) hj1
          omega
      · rw [List.getElem?_set_ne hii, e0]
        congr 1
        apply List.filter_congr
        intro x hx
        obtain ⟨j', hj', rfl⟩ := List.mem_map.mp hx
        have hj' := List.mem_range.mp hj'
        have : e i' j' ≠ (k : Int) + 1 := fun z => hii (uniq i' j' hi' hj' z).symm
        rw [Bool.eq_iff_iff, decide_eq_true_eq, decide_eq_true_eq]
        omega
    · rw [List.getElem?_eq_none (by rw [List.length_set, hlen]; omega), List.getElem?_eq_none (by unfold preR; rw [List.length_map, List.length_range]; omega)]
def rowsOf (r c : Nat) (e : Nat → Nat → Int) : RS := (List.range r).map fun i => rowF c (e i)
theorem all_met (h : Rising r c e) (hp : (entsL r c e).Perm (upTo1 (r * c))) : rowsOf r c e ∈ srt r c := by
  refine (srt_perm r c).mem_iff.mpr ?_
  have := pre_mem h hp (r * c) (Nat.le_refl _)
  have e2 : preR r c e ((r * c : Nat) : Int) = rowsOf r c e := by
    unfold preR rowsOf
    apply List.map_congr_left
    intro i hi
    rw [List.filter_eq_self]
    intro x hx
    obtain ⟨j, hj, rfl⟩ := List.mem_map.mp hx
    have hm : e i j ∈ entsL r c e := List.mem_map.mpr ⟨(i, j), mem_allP.mpr ⟨List.mem_range.mp hi, List.mem_range.mp hj⟩, rfl⟩
    have := hp.mem_iff.mp hm
    unfold upTo1 at this
    obtain ⟨n, hn, hn2⟩ := List.mem_map.mp this
    have := List.mem_range.mp hn
    exact decide_eq_true (by omega)
  rwa [e2] at this
theorem rows_tb : rowsD2 (rowsOf r c e) = tbD r c e := by
  unfold rowsD2 rowsOf tbD
  rw [List.map_map]
  congr 1
  apply List.map_congr_left
  intro i _
  show PyData.tuple ((rowF c (e i)).map PyData.int) = rowD c (e i)
  unfold rowF rowD
  rw [List.map_map]; rfl
end
theorem srt_good {r c : Nat} (hr : 1 ≤ r ∧ r ≤ 4) (hc : 1 ≤ c ∧ c ≤ 4) (h : r * c ≤ 12) {x : RS} (hx : x ∈ srt r c) : ∃ e, rowsD2 x = tbD r c e ∧ isTab (tbD r c e) = true ∧ entS r c e = upTo1 (r * c) := by
  have h1 := List.all_eq_true.mp good_ok _ (mem_12 hr hc h)
  have h2 := List.all_eq_true.mp h1 x ((srt_perm r c).mem_iff.mp hx)
  unfold goodR at h2
  simp only [Bool.and_eq_true, List.all_eq_true, Nat.beq_eq] at h2
  obtain ⟨⟨s1, s2⟩, g1, g2, g3, g4⟩ := h2
  have hris := risF_iff.mp g1
  have hpm : (entsL r c (eOf x)).Perm (upTo1 (r * c)) := by
    refine (List.perm_ext_iff_of_nodup (nodI_iff g2) ?_).mpr fun a => ⟨fun ha => memI_iff.mp (g3 a ha), fun ha => memI_iff.mp (g4 a ha)⟩
    unfold upTo1
    rw [List.Nodup, List.pairwise_map]
    exact List.pairwise_lt_range.imp fun {a b} h => by omega
  refine ⟨eOf x, ?_, (isTab_iff hr hc).mpr ⟨fun i j hi hj => ?_, hris⟩, sorted_unique (isort_pw _) (upTo1_pw _) ((isort_perm _).trans hpm)⟩
  · unfold rowsD2 tbD
    congr 1
    apply List.ext_getElem?
    intro i
    rw [List.getElem?_map, List.getElem?_map]
    by_cases hi : i < r
    · rw [List.getElem?_range hi, List.getElem?_eq_getElem (by omega)]
      show some (rowD2 x[i]) = some (rowD c (eOf x i))
      congr 1
      unfold rowD2 rowD
      congr 1
      have hxi : x.getD i [] = x[i] := by rw [List.getD_eq_getElem?_getD, List.getElem?_eq_getElem (by omega)]; rfl
      have hl : x[i].length = c := s2 _ (List.getElem_mem _)
      apply List.ext_getElem?
      intro j
      rw [List.getElem?_map, List.getElem?_map]
      by_cases hj : j < c
      · rw [List.getElem?_range hj, List.getElem?_eq_getElem (by omega)]
        show some (PyData.int x[i][j]) = some (PyData.int (eOf x i j))
        unfold eOf
        rw [hxi, List.getD_eq_getElem?_getD, List.getElem?_eq_getElem (by omega)]; rfl
      · rw [List.getElem?_eq_none (by omega), List.getElem?_eq_none (by simpa using hj)]; rfl
    · rw [List.getElem?_eq_none (by omega), List.getElem?_eq_none (by simpa using hi)]; rfl
  · have hm : eOf x i j ∈ entsL r c (eOf x) := List.mem_map.mpr ⟨(i, j), mem_allP.mpr ⟨hi, hj⟩, rfl⟩
    have := hpm.mem_iff.mp hm
    unfold upTo1 at this
    obtain ⟨n, hn, hn2⟩ := List.mem_map.mp this
    have := List.mem_range.mp hn
    omega
theorem srt_nodup {r c : Nat} (hr : 1 ≤ r ∧ r ≤ 4) (hc : 1 ≤ c ∧ c ≤ 4) (h : r * c ≤ 12) : (srt r c).Nodup := by
  refine (srt_perm r c).nodup_iff.mpr ?_
  have h1 := nodN_iff (List.all_eq_true.mp nod_ok _ (mem_12 hr hc h))
  exact List.Pairwise.of_map codeR (fun _ _ hne e => hne (congrArg _ e)) h1
end Dm
namespace Dm
open PySem PySem.Spec PyProof.Rows L2 LamX
/-! ### numbering_at, rank_of -/
section
variable {Δ Δ1 : Nat → Fn} {G : List (Str × D)}
structure SpFew (Δ : Nat → Fn) : Prop where
  ok : ∀ (r c : Nat) ρ, r ≤ 4 → c ≤ 4 → r * c ≤ 12 → callD (Δ i_need_few) false [.dat (szD r c)] ρ = .ok .none ρ
  no : ∀ (r c : Nat) ρ, r ≤ 4 → c ≤ 4 → 12 < r * c → callD (Δ i_need_few) false [.dat (szD r c)] ρ = .exc .toolarge ρ
theorem few_cond (r c : Nat) (hc : c ≤ 4) (ρ : Rho) (h : ρ[0]? = some (.val (szD r c))) : den Δ1 G (.cmp .gt (.bin .mul (.ixv 0 (.int 0)) (.ixv 0 (.int 1))) (.int 12)) ρ = .ok (.bool (decide (12 < r * c))) ρ := by
  have hmI : (r : Int) * c = ((r * c : Nat) : Int) := by rw [Int.natCast_mul]
  have hh : held 0 ρ = true := by unfold held; rw [h]; rfl
  have g : den Δ1 G (.bin .mul (.ixv 0 (.int 0)) (.ixv 0 (.int 1))) ρ = .ok (.int ((r * c : Nat) : Int)) ρ := by
    rw [← hmI]
    have hm2 : B2.mul.den (.int (r : Int)) (.int (c : Int)) = some (.int ((r : Int) * c)) := by
      rw [B2.den]
      refine mul_r _ _ ?_
      rw [decide_eq_true (by omega), decide_eq_true (by omega)]; rfl
    have g0 : den Δ1 G (.ixv 0 (.int 0)) ρ = .ok (.int (r : Int)) ρ := den_ixv (y := .int 0) rfl hh h rfl
    have g1 : den Δ1 G (.ixv 0 (.int 1)) ρ = .ok (.int (c : Int)) ρ := den_ixv (y := .int 1) rfl hh h rfl
    exact den_bin (o := .mul) g0 g1 hm2
  have := den_gt (Δ := Δ1) (G := G) (b := .int 12) g rfl
  rw [this]
  congr 2
  rw [Bool.eq_iff_iff, decide_eq_true_eq, decide_eq_true_eq]; omega
theorem sp_few (h : Δ i_need_few = F_need_few.fn Δ1 G) : SpFew Δ where
  ok := fun r c ρ hr hc hm => by
    refine call_nx h rfl (ds := [szD r c]) ?_ ρ
    refine ⟨[.val (szD r c)], ?_, by simp⟩
    have hq := few_cond (Δ1 := Δ1) (G := G) r c hc [.val (szD r c)] rfl
    rw [decide_eq_false (by omega)] at hq
    show denSs Δ1 G (.cons (.ifs (.cmp .gt (.bin .mul (.ixv 0 (.int 0)) (.ixv 0 (.int 1))) (.int 12)) (.cons (.raise .toolarge) .nil) .nil) .nil) [.val (szD r c)] = _
    rw [ss_nx (s_if_f hq)]; rfl
  no := fun r c ρ hr hc hm => by
    refine call_xc h rfl (ds := [szD r c]) ?_ ρ
    refine ⟨[.val (szD r c)], ?_, by simp⟩
    have hq := few_cond (Δ1 := Δ1) (G := G) r c hc [.val (szD r c)] rfl
    rw [decide_eq_true hm] at hq
    show denSs Δ1 G (.cons (.ifs (.cmp .gt (.bin .mul (.ixv 0 (.int 0)) (.ixv 0 (.int 1))) (.int 12)) (.cons (.raise .toolarge) .nil) .nil) .nil) [.val (szD r c)] = _
    exact ss_ex (by rw [s_if_t hq]; rfl)
structure SpNumAt (Δ : Nat → Fn) : Prop where
  ok : ∀ (r c k : Nat) x ρ, 1 ≤ r ∧ r ≤ 4 → 1 ≤ c ∧ c ≤ 4 → r * c ≤ 12 → (srt r c)[k]? = some x → callD (Δ i_numbering_at) false [.dat (szD r c), .dat (.int (k : Int))] ρ = .ok (rowsD2 x) ρ
  bad : ∀ (r c : Nat) d ρ, 1 ≤ r ∧ r ≤ 4 → 1 ≤ c ∧ c ≤ 4 → r * c ≤ 12 → isWh d 0 (((srt r c).length : Int) - 1) = false → callD (Δ i_numbering_at) false [.dat (szD r c), .dat d] ρ = .exc .count ρ
  big : ∀ (r c : Nat) d ρ, 1 ≤ r ∧ r ≤ 4 → 1 ≤ c ∧ c ≤ 4 → 12 < r * c → callD (Δ i_numbering_at) false [.dat (szD r c), .dat d] ρ = .exc .toolarge ρ
theorem sp_numat (h : Δ i_numbering_at = F_numbering_at.fn Δ1 G) (c1 : SpNeedSize Δ1) (c2 : SpFew Δ1) (c3 : SpAllNum Δ1) (c4 : SpWhole Δ1) : SpNumAt Δ := by
  have pre : ∀ (r c : Nat) d, 1 ≤ r ∧ r ≤ 4 → 1 ≤ c ∧ c ≤ 4 → r * c ≤ 12 → ∀ b, isWh d 0 (((srt r c).length : Int) - 1) = b → denSs Δ1 G B_numbering_at [.val (szD r c), .val d, .un] = denSs Δ1 G (.cons (.ifs (.bl (!b)) (.cons (.raise .count) .nil) .nil) (.cons (.ret (.ixv 2 (.var 1))) .nil)) [.val (szD r c), .val d, .val (.list ((srt r c).map rowsD2))] := fun r c d hr hc hm b hb => by
    unfold B_numbering_at
    rw [ss_nx (s_expr (den_call (ars := [.dat (szD r c)]) rfl (c1.ok _ _ (isSz_sz hr hc))))]
    rw [ss_nx (s_expr (den_call (ars := [.dat (szD r c)]) rfl (c2.ok r c _ hr.2 hc.2 hm)))]
    have t := c3 r c [.val (szD r c), .val d, .un] hr hc (fun k hk => lev_few hr hc hm k hk)
    rw [ss_nx (s_set (den_call (ars := [.dat (szD r c)]) rfl t))]
    let S : Rho := [.val (szD r c), .val d, .val (.list ((srt r c).map rowsD2))]
    show denSs Δ1 G _ S = denSs Δ1 G _ S
    have hl : den Δ1 G (.bin .sub (.lenv 2) (.int 1)) S = .ok (.int (((srt r c).length : Int) - 1)) S := by
      refine den_subi (i := ((srt r c).length : Int)) ?_ rfl
      show lift (some (PyData.int (((srt r c).map rowsD2).length : Nat))) S = _
      rw [List.length_map]; rfl
    have g : den Δ1 G (.not (.call 0 false (.val (.var 1) (.val (.int 0) (.val (.bin .sub (.lenv 2) (.int 1)) .nil))))) S = .ok (.bool (!b)) S := by
      rw [← hb]
      exact den_not (den_call (ars := [.dat d, .dat (.int 0), .dat (.int (((srt r c).length : Int) - 1))]) (dA_val (ρ1 := S) rfl (dA_val (ρ1 := S) rfl (dA_val hl rfl))) (c4 d 0 _ S))
    rw [ss_cons, ss_cons, s_if g, s_if (c := .bl (!b)) (b := !b) (ρ1 := S) rfl]
  refine ⟨fun r c k x ρ hr hc hm hk => ?_, fun r c d ρ hr hc hm hd => ?_, fun r c d ρ hr hc hm => ?_⟩
  · refine call_rt h rfl (ds := [szD r c, .int k]) ?_ ρ
    obtain ⟨hl, _⟩ := List.getElem?_eq_some_iff.mp hk
    let S : Rho := [.val (szD r c), .val (.int k), .val (.list ((srt r c).map rowsD2))]
    refine Rt.of (ρ := S) ?_ (by simp [S])
    show denSs Δ1 G B_numbering_at [.val (szD r c), .val (.int k), .un] = _
    rw [pre r c (.int k) hr hc hm true (by simp [isWh]; omega)]
    rw [ss_nx (s_if_f (ρ1 := S) rfl)]
    refine ss_rt (s_ret (den_ixv (d0 := .list ((srt r c).map rowsD2)) (y := .int (k : Int)) rfl rfl rfl ?_))
    show atI ((srt r c).map rowsD2) (k : Int) = _
    rw [atI_nat, List.getElem?_map, hk]; rfl
  · refine call_xc h rfl (ds := [szD r c, d]) ?_ ρ
    let S : Rho := [.val (szD r c), .val d, .val (.list ((srt r c).map rowsD2))]
    refine ⟨S, ?_, by simp [S]⟩
    show denSs Δ1 G B_numbering_at [.val (szD r c), .val d, .un] = _
    rw [pre r c d hr hc hm false hd]
    exact ss_ex (by rw [s_if_t (ρ1 := S) rfl]; rfl)
  · refine call_xc h rfl (ds := [szD r c, d]) ?_ ρ
    let S : Rho := [.val (szD r c), .val d, .un]
    refine ⟨S, ?_, by simp [S]⟩
    show denSs Δ1 G B_numbering_at S = _
    unfold B_numbering_at
    rw [ss_nx (s_expr (den_call (ars := [.dat (szD r c)]) rfl (c1.ok _ _ (isSz_sz hr hc))))]
    exact ss_ex (s_expr_xc (den_call_xc (ars := [.dat (szD r c)]) rfl (c2.no r c _ hr.2 hc.2 hm)))
structure SpRank (Δ : Nat → Fn) : Prop where
  ok : ∀ (r c k : Nat) x ρ, 1 ≤ r ∧ r ≤ 4 → 1 ≤ c ∧ c ≤ 4 → r * c ≤ 12 → (srt r c)[k]? = some x → callD (Δ i_rank_of) false [.dat (szD r c), .dat (rowsD2 x)] ρ = .ok (.int (k : Int)) ρ
  no : ∀ (r c : Nat) d ρ, 1 ≤ r ∧ r ≤ 4 → 1 ≤ c ∧ c ≤ 4 → isTab d = false → callD (Δ i_rank_of) false [.dat (szD r c), .dat d] ρ = .exc .numbering ρ
  ne : ∀ (r c : Nat) e ρ, 1 ≤ r ∧ r ≤ 4 → 1 ≤ c ∧ c ≤ 4 → isTab (tbD r c e) = true → entS r c e ≠ upTo1 (r * c) → callD (Δ i_rank_of) false [.dat (szD r c), .dat (tbD r c e)] ρ = .exc .numbering ρ
  big : ∀ (r c : Nat) e ρ, 1 ≤ r ∧ r ≤ 4 → 1 ≤ c ∧ c ≤ 4 → isTab (tbD r c e) = true → entS r c e = upTo1 (r * c) → 12 < r * c → callD (Δ i_rank_of) false [.dat (szD r c), .dat (tbD r c e)] ρ = .exc .toolarge ρ
theorem sp_rank (h : Δ i_rank_of = F_rank_of.fn Δ1 G) (c1 : SpNeedSize Δ1) (c2 : SpGoodNum Δ1) (c3 : SpFew Δ1) (c4 : SpAllNum Δ1) : SpRank Δ := by
  have bad : ∀ (r c : Nat) d ρ, 1 ≤ r ∧ r ≤ 4 → 1 ≤ c ∧ c ≤ 4 → (∀ ρ, callD (Δ1 i_good_numbering) false [.dat (szD r c), .dat d] ρ = .ok (.bool false) ρ) → callD (Δ i_rank_of) false [.dat (szD r c), .dat d] ρ = .exc .numbering ρ := fun r c d ρ hr hc hg => by
    refine call_xc h rfl (ds := [szD r c, d]) ?_ ρ
    let S : Rho := [.val (szD r c), .val d]
    refine ⟨S, ?_, by simp [S]⟩
    show denSs Δ1 G B_rank_of S = _
    unfold B_rank_of
    rw [ss_nx (s_expr (den_call (ars := [.dat (szD r c)]) rfl (c1.ok _ _ (isSz_sz hr hc))))]
    exact ss_ex (by rw [s_if_t (ρ1 := S) (den_not (v := false) (den_call (ars := [.dat (szD r c), .dat d]) rfl (hg S)))]; rfl)
  refine ⟨fun r c k x ρ hr hc hm hk => ?_, fun r c d ρ hr hc hd => bad r c d ρ hr hc fun ρ => c2.no r c d ρ hd, fun r c e ρ hr hc ht hne => bad r c _ ρ hr hc fun ρ => by
    have := c2.ok r c e ρ hr hc ht
    rw [decide_eq_false hne] at this
    exact this, fun r c e ρ hr hc ht he hm => ?_⟩
  · refine call_rt h rfl (ds := [szD r c, rowsD2 x]) ?_ ρ
    let S : Rho := [.val (szD r c), .val (rowsD2 x)]
    obtain ⟨e, e1, e2, e3⟩ := srt_good hr hc hm (List.mem_of_getElem? hk)
    have hg : callD (Δ1 i_good_numbering) false [.dat (szD r c), .dat (rowsD2 x)] S = .ok (.bool true) S := by
      rw [e1]
      have := c2.ok r c e S hr hc e2
      rw [decide_eq_true e3] at this
      exact this
    refine Rt.of (ρ := S) ?_ (by simp [S])
    show denSs Δ1 G B_rank_of S = _
    unfold B_rank_of
    rw [ss_nx (s_expr (den_call (ars := [.dat (szD r c)]) rfl (c1.ok _ _ (isSz_sz hr hc))))]
    rw [ss_nx (s_if_f (ρ1 := S) (den_not (v := true) (den_call (ars := [.dat (szD r c), .dat (rowsD2 x)]) rfl hg)))]
    rw [ss_nx (s_expr (den_call (ars := [.dat (szD r c)]) rfl (c3.ok r c _ hr.2 hc.2 hm)))]
    refine ss_rt (s_ret ?_)
    have t := c4 r c S hr hc (fun k hk => lev_few hr hc hm k hk)
    show (den Δ1 G (.call 75 false (.val (.var 0) .nil)) S).bind _ = _
    rw [den_call (ars := [.dat (szD r c)]) rfl t]
    show lift (idxD (.list ((srt r c).map rowsD2)) (rowsD2 x)) S = _
    rw [idx2 (srt_nodup hr hc hm) hk]; rfl
  · refine call_xc h rfl (ds := [szD r c, tbD r c e]) ?_ ρ
    let S : Rho := [.val (szD r c), .val (tbD r c e)]
    refine ⟨S, ?_, by simp [S]⟩
    have hg := c2.ok r c e S hr hc ht
    rw [decide_eq_true he] at hg
    show denSs Δ1 G B_rank_of S = _
    unfold B_rank_of
    rw [ss_nx (s_expr (den_call (ars := [.dat (szD r c)]) rfl (c1.ok _ _ (isSz_sz hr hc))))]
    rw [ss_nx (s_if_f (ρ1 := S) (den_not (v := true) (den_call (ars := [.dat (szD r c), .dat (tbD r c e)]) rfl hg)))]
    exact ss_ex (s_expr_xc (den_call_xc (ars := [.dat (szD r c)]) rfl (c3.no r c _ hr.2 hc.2 hm)))
end
theorem sizes12_eq : sizes12 = [(1, 1), (1, 2), (1, 3), (1, 4), (2, 1), (2, 2), (2, 3), (2, 4), (3, 1), (3, 2), (3, 3), (3, 4), (4, 1), (4, 2), (4, 3)] := by decide +kernel
theorem le2_den (x y : RS) : C2.le.den (rowsD2 y) (rowsD2 x) = some (.bool (!ltD2 x y)) := by
  rw [C2.den]
  have h1 := dep2 y
  show (if PySem.W.alike (rowsD2 y) (rowsD2 x) && decide (min (rowsD2 y).depth (rowsD2 x).depth ≤ 60) then some (PyData.bool (!PySem.W.dataLt (rowsD2 x) (rowsD2 y))) else none) = _
  rw [alike2, decide_eq_true (by omega)]; rfl
end Dm
namespace Dm
open PySem PySem.Spec PyProof.Rows L2 LamX
def top (i : Nat) : Stmt := PySem.Challenge.pw_stairsearch_k16_whole_ranks.main.body.getD i (.Pass ⟨0, 0, 0, 0⟩)
def X_is_whole : DefX := ⟨i_is_whole, ⟨"is_whole", ["value", "low", "high"], ["value", "low", "high"], false, B_is_whole⟩, top 17⟩
def X_is_rising : DefX := ⟨i_is_rising, ⟨"is_rising", ["numbers", "at"], ["numbers"], false, B_is_rising⟩, top 18⟩
def X_are_entries : DefX := ⟨i_are_entries, ⟨"are_entries", ["value", "many", "one"], ["value", "many"], false, B_are_entries⟩, top 19⟩
def X_is_table : DefX := ⟨i_is_table, ⟨"is_table", ["value", "many", "row", "at"], ["value"], false, B_is_table⟩, top 20⟩
def X_need_table : DefX := ⟨i_need_table, ⟨"need_table", ["table"], ["table"], false, B_need_table⟩, top 21⟩
def X_is_size : DefX := ⟨i_is_size, ⟨"is_size", ["value", "one"], ["value"], false, B_is_size⟩, top 22⟩
def X_need_size : DefX := ⟨i_need_size, ⟨"need_size", ["size"], ["size"], false, B_need_size⟩, top 23⟩
def X_size_of : DefX := ⟨i_size_of, ⟨"size_of", ["table"], ["table"], false, B_size_of⟩, top 24⟩
def X_all_places : DefX := ⟨i_all_places, ⟨"all_places", ["size", "found", "row", "column"], ["size"], false, B_all_places⟩, top 25⟩
def X_at : DefX := ⟨i_at, ⟨"at", ["table", "place"], ["table", "place"], false, B_at⟩, top 26⟩
def X_good_numbering : DefX := ⟨i_good_numbering, ⟨"good_numbering", ["size", "value", "place"], ["size", "value"], false, B_good_numbering⟩, top 28⟩
def X_is_numbering : DefX := ⟨i_is_numbering, ⟨"is_numbering", ["size", "value"], ["size", "value"], false, B_is_numbering⟩, top 29⟩
def X_count_from : DefX := ⟨i_count_from, ⟨"count_from", ["lengths", "columns", "known", "one", "total", "row"], ["lengths", "columns", "known"], false, B_count_from⟩, top 30⟩
def X_count_numberings : DefX := ⟨i_count_numberings, ⟨"count_numberings", ["size"], ["size"], false, B_count_numberings⟩, top 31⟩
def X_all_numberings : DefX := ⟨i_all_numberings, ⟨"all_numberings", ["size", "many", "level", "number", "later", "rows", "row", "own"], ["size"], false, B_all_numberings⟩, top 32⟩
def X_need_few : DefX := ⟨i_need_few, ⟨"need_few", ["size"], ["size"], false, B_need_few⟩, top 33⟩
def X_numbering_at : DefX := ⟨i_numbering_at, ⟨"numbering_at", ["size", "rank", "some"], ["size", "rank"], false, B_numbering_at⟩, top 34⟩
def X_rank_of : DefX := ⟨i_rank_of, ⟨"rank_of", ["size", "numbering"], ["size", "numbering"], false, B_rank_of⟩, top 35⟩
def X_numbering_of : DefX := ⟨i_numbering_of, ⟨"numbering_of", ["table", "size", "place", "order", "entry", "places", "rows", "row", "column"], ["table"], false, B_numbering_of⟩, top 36⟩
def X__law_cell : DefX := ⟨i__law_cell, ⟨"_law_cell", ["_law_script", "_law_k"], ["_law_script", "_law_k"], false, B__law_cell⟩, top 38⟩
def X__law_drawn : DefX := ⟨i__law_drawn, ⟨"_law_drawn", ["_law_cell_here", "_law_k", "_law_more"], ["_law_cell_here", "_law_k"], false, B__law_drawn⟩, top 39⟩
def X__law_roll : DefX := ⟨i__law_roll, ⟨"_law_roll", ["_law_dice", "_law_many", "_law_told_here"], ["_law_dice", "_law_many"], false, B__law_roll⟩, top 40⟩
def X__law_any_size : DefX := ⟨i__law_any_size, ⟨"_law_any_size", ["_law_dice", "_law_most"], ["_law_dice", "_law_most"], false, B__law_any_size⟩, top 44⟩
def X__law_any_table : DefX := ⟨i__law_any_table, ⟨"_law_any_table", ["_law_dice", "_law_size", "_law_step", "_law_rows", "_law_row", "_law_entries", "_law_column", "_law_above", "_law_low"], ["_law_dice", "_law_size"], false, B__law_any_table⟩, top 45⟩
def tbl : List DefX := [X_is_whole, X_is_rising, X_are_entries, X_is_table, X_need_table, X_is_size, X_need_size, X_size_of, X_all_places, X_at, X_good_numbering, X_is_numbering, X_count_from, X_count_numberings, X_all_numberings, X_need_few, X_numbering_at, X_rank_of, X_numbering_of, X__law_cell, X__law_drawn, X__law_roll, X__law_any_size, X__law_any_table]
def exs : List Exn := [.table, .number, .size, .story, .place, .count, .numbering, .answer, .text, .clash, .found, .toolong, .toolarge, .nothing]
def glbs : List (Str × D) := []
def B_law : ISs := (.cons (.set 2 (.call 12 false (.slo 1 (.val (.int 4) .nil)))) (.cons (.set 3 (.call 71 false (.val (.call 14 false (.slo 1 (.val (.var 2) .nil))) .nil))) (.cons (.set 4 (.call 73 false (.val (.var 2) .nil))) (.cons (.ifs (.cmp .eq (.var 2) (.tup (.cons (.int 4) (.cons (.int 4) .nil)))) (.cons (.ifs (.cmp .ne (.told (.call 77 false (.val (.var 2) (.val (.int 0) .nil)))) (.tup (.cons (.str "error") (.cons (.str "TooLarge") .nil)))) (.cons (.ret (.bl false)) .nil) .nil) (.cons (.ifs (.cmp .ne (.told (.call 78 false (.val (.var 2) (.val (.var 3) .nil)))) (.tup (.cons (.str "error") (.cons (.str "TooLarge") .nil)))) (.cons (.ret (.bl false)) .nil) .nil) .nil)) (.cons (.set 5 (.call 8 false (.slo 1 (.val (.var 4) .nil)))) (.cons (.set 6 (.call 77 false (.val (.var 2) (.val (.var 5) .nil)))) (.cons (.ifs (.or (.cons (.not (.call 70 false (.val (.var 2) (.val (.var 6) .nil)))) (.cons (.cmp .ne (.call 78 false (.val (.var 2) (.val (.var 6) .nil))) (.var 5)) .nil))) (.cons (.ret (.bl false)) .nil) .nil) (.cons (.ifs (.and (.cons (.cmp .lt (.bin .add (.var 5) (.int 1)) (.var 4)) (.cons (.cmp .le (.call 77 false (.val (.var 2) (.val (.bin .add (.var 5) (.int 1)) .nil))) (.var 6)) .nil))) (.cons (.ret (.bl false)) .nil) .nil) (.cons (.ifs (.or (.cons (.cmp .ne (.call 77 false (.val (.var 2) (.val (.call 78 false (.val (.var 2) (.val (.var 3) .nil))) .nil))) (.var 3)) (.cons (.not (.cmp2 .le .lt (.int 0) (.call 78 false (.val (.var 2) (.val (.var 3) .nil))) (.var 4))) .nil))) (.cons (.ret (.bl false)) .nil) .nil) (.cons (.for_ (.nm 7) (.dat (.lst (.cons (.neg (.int 1)) (.cons (.var 4) (.cons (.bl true) (.cons .non (.cons (.str "0") .nil))))))) (.cons (.ifs (.cmp .ne (.told (.call 77 false (.val (.var 2) (.val (.var 7) .nil)))) (.tup (.cons (.str "error") (.cons (.str "InvalidCount") .nil)))) (.cons (.ret (.bl false)) .nil) .nil) .nil)) .nil))))))) (.cons (.set 10 (.lst (.cons .non (.cons (.tup .nil) (.cons (.bin .add (.var 3) (.var 3)) (.cons (.blt .tuple (.cons (.comp (.nm 8) [("_law_row", 8)] (.dat (.var 3)) .yes (.blt .tuple (.cons (.comp (.nm 9) [("_law_entry", 9)] (.dat (.var 8)) .yes (.bin .add (.var 9) (.int 1))) .nil))) .nil)) .nil)))))) (.cons (.for_ (.nm 7) (.dat (.var 10)) (.cons (.ifs (.cmp .ne (.told (.call 78 false (.val (.var 2) (.val (.var 7) .nil)))) (.tup (.cons (.str "error") (.cons (.str "InvalidNumbering") .nil)))) (.cons (.ret (.bl false)) .nil) .nil) .nil)) .nil))))))
def lawI : LawI := ⟨["_law_script", "_law_dice", "_law_size", "_law_made", "_law_many", "_law_rank", "_law_one", "_law_bad", "_law_row", "_law_entry", "_law_cases"], "_law_rounds", 3, true, B_law⟩
def sRnd : Stmt := top 41
def sLaw : Stmt := top 46
def sTold : Stmt := top 43
def sTerm : Stmt := top 42
def lx : LawX := ⟨tbl, exs, false, rndI, sRnd, lawI, sLaw, sTold, sTerm⟩
theorem lx_ok : lx.okB = true := by decide +kernel
theorem bind_is_whole : BindX X_is_whole.f.name X_is_whole.f.ps X_is_whole.st := fun _ _ _ _ _ _ us hl => match us, hl with | [_, _, _], _ => by rfl
theorem bind_is_rising : BindX X_is_rising.f.name X_is_rising.f.ps X_is_rising.st := fun _ _ _ _ _ _ us hl => match us, hl with | [_], _ => by rfl
theorem bind_are_entries : BindX X_are_entries.f.name X_are_entries.f.ps X_are_entries.st := fun _ _ _ _ _ _ us hl => match us, hl with | [_, _], _ => by rfl
theorem bind_is_table : BindX X_is_table.f.name X_is_table.f.ps X_is_table.st := fun _ _ _ _ _ _ us hl => match us, hl with | [_], _ => by rfl
theorem bind_need_table : BindX X_need_table.f.name X_need_table.f.ps X_need_table.st := fun _ _ _ _ _ _ us hl => match us, hl with | [_], _ => by rfl
theorem bind_is_size : BindX X_is_size.f.name X_is_size.f.ps X_is_size.st := fun _ _ _ _ _ _ us hl => match us, hl with | [_], _ => by rfl
theorem bind_need_size : BindX X_need_size.f.name X_need_size.f.ps X_need_size.st := fun _ _ _ _ _ _ us hl => match us, hl with | [_], _ => by rfl
theorem bind_size_of : BindX X_size_of.f.name X_size_of.f.ps X_size_of.st := fun _ _ _ _ _ _ us hl => match us, hl with | [_], _ => by rfl
theorem bind_all_places : BindX X_all_places.f.name X_all_places.f.ps X_all_places.st := fun _ _ _ _ _ _ us hl => match us, hl with | [_], _ => by rfl
theorem bind_at : BindX X_at.f.name X_at.f.ps X_at.st := fun _ _ _ _ _ _ us hl => match us, hl with | [_, _], _ => by rfl
theorem bind_good_numbering : BindX X_good_numbering.f.name X_good_numbering.f.ps X_good_numbering.st := fun _ _ _ _ _ _ us hl => match us, hl with | [_, _], _ => by rfl
theorem bind_is_numbering : BindX X_is_numbering.f.name X_is_numbering.f.ps X_is_numbering.st := fun _ _ _ _ _ _ us hl => match us, hl with | [_, _], _ => by rfl
theorem bind_count_from : BindX X_count_from.f.name X_count_from.f.ps X_count_from.st := fun _ _ _ _ _ _ us hl => match us, hl with | [_, _, _], _ => by rfl
theorem bind_count_numberings : BindX X_count_numberings.f.name X_count_numberings.f.ps X_count_numberings.st := fun _ _ _ _ _ _ us hl => match us, hl with | [_], _ => by rfl
theorem bind_all_numberings : BindX X_all_numberings.f.name X_all_numberings.f.ps X_all_numberings.st := fun _ _ _ _ _ _ us hl => match us, hl with | [_], _ => by rfl
theorem bind_need_few : BindX X_need_few.f.name X_need_few.f.ps X_need_few.st := fun _ _ _ _ _ _ us hl => match us, hl with | [_], _ => by rfl
theorem bind_numbering_at : BindX X_numbering_at.f.name X_numbering_at.f.ps X_numbering_at.st := fun _ _ _ _ _ _ us hl => match us, hl with | [_, _], _ => by rfl
theorem bind_rank_of : BindX X_rank_of.f.name X_rank_of.f.ps X_rank_of.st := fun _ _ _ _ _ _ us hl => match us, hl with | [_, _], _ => by rfl
theorem bind_numbering_of : BindX X_numbering_of.f.name X_numbering_of.f.ps X_numbering_of.st := fun _ _ _ _ _ _ us hl => match us, hl with | [_], _ => by rfl
theorem bind__law_cell : BindX X__law_cell.f.name X__law_cell.f.ps X__law_cell.st := fun _ _ _ _ _ _ us hl => match us, hl with | [_, _], _ => by rfl
theorem bind__law_drawn : BindX X__law_drawn.f.name X__law_drawn.f.ps X__law_drawn.st := fun _ _ _ _ _ _ us hl => match us, hl with | [_, _], _ => by rfl
theorem bind__law_roll : BindX X__law_roll.f.name X__law_roll.f.ps X__law_roll.st := fun _ _ _ _ _ _ us hl => match us, hl with | [_, _], _ => by rfl
theorem bind__law_any_size : BindX X__law_any_size.f.name X__law_any_size.f.ps X__law_any_size.st := fun _ _ _ _ _ _ us hl => match us, hl with | [_, _], _ => by rfl
theorem bind__law_any_table : BindX X__law_any_table.f.name X__law_any_table.f.ps X__law_any_table.st := fun _ _ _ _ _ _ us hl => match us, hl with | [_, _], _ => by rfl
theorem bind_rnd : BindX "_law_rounds" (rndI.N.take 2) sRnd := fun _ _ _ _ _ _ us hl => match us, hl with | [_, _], _ => by rfl
theorem bind_law : BindX "law" (lawI.N.take 1) sLaw := fun _ _ _ _ _ _ us hl => match us, hl with | [_], _ => by rfl
theorem bind_told : lx.lm = true → BindX "_law_told" ["_law_deed"] lx.sTold ∧ BindX "_law_term" ["_law_e"] lx.sTerm := fun _ => ⟨(fun _ _ _ _ _ _ us hl => match us, hl with | [_], _ => by rfl), (fun _ _ _ _ _ _ us hl => match us, hl with | [_], _ => by rfl)⟩
theorem binds : lx.Binds := ⟨by
  intro d hd
  simp only [lx, tbl, List.mem_cons, List.not_mem_nil, or_false] at hd
  rcases hd with rfl | rfl | rfl | rfl | rfl | rfl | rfl | rfl | rfl | rfl | rfl | rfl | rfl | rfl | rfl | rfl | rfl | rfl | rfl | rfl | rfl | rfl | rfl | rfl
  · exact bind_is_whole
  · exact bind_is_rising
  · exact bind_are_entries
  · exact bind_is_table
  · exact bind_need_table
  · exact bind_is_size
  · exact bind_need_size
  · exact bind_size_of
  · exact bind_all_places
  · exact bind_at
  · exact bind_good_numbering
  · exact bind_is_numbering
  · exact bind_count_from
  · exact bind_count_numberings
  · exact bind_all_numberings
  · exact bind_need_few
  · exact bind_numbering_at
  · exact bind_rank_of
  · exact bind_numbering_of
  · exact bind__law_cell
  · exact bind__law_drawn
  · exact bind__law_roll
  · exact bind__law_any_size
  · exact bind__law_any_table
  , bind_rnd, bind_law, bind_told⟩

abbrev Rw : PySem.W.OpenRow := PySem.W.OpenLaw.row PySem.Challenge.rw_stairsearch_k16_whole_ranks
abbrev hk : PySem.W.Hook := He.hookX 4 lx.fa lx.fn [] lx.tf lx.ex
def ob (s : PySem.W.SharedT) : He.AlX := He.obsX 4 lx.fa lx.fn [] lx.tf lx.ex (HandSHeadRun.getT s)
theorem ob_eq (s : PySem.W.SharedT) : ob s = hk.obs s.abs := He.obsX_eq (HandSHeadRun.getT_eq s)
def loose : List PySem.Str := (["SearchError", "InvalidTable", "InvalidNumber", "InvalidSize", "InvalidStory", "InvalidPlace", "InvalidCount", "InvalidNumbering", "InvalidAnswer", "InvalidText", "Clash", "Found", "TooLong", "TooLarge", "NothingToUndo", "is_whole", "is_rising", "are_entries", "is_table", "need_table", "is_size", "need_size", "size_of", "all_places", "at", "good_numbering", "is_numbering", "count_from", "count_numberings", "all_numberings"] : List PySem.Str) ++ (["need_few", "numbering_at", "rank_of", "numbering_of", "_law_cell", "_law_drawn", "_law_roll", "_law_rounds", "_law_term", "_law_told", "_law_any_size", "_law_any_table"] : List PySem.Str)
theorem run (w : World) : HandSHeadRun.RunEq Rw (PySem.W.view Rw.prog [46]) hk ob 12000 loose w := by
  intro os
  kernel_rfl

theorem s_rising (n : Nat) : SpRising (lx.dl (n + 1)) := sp_rising (Δ1 := lx.dl (n + 0)) (G := lx.gl) rfl
theorem s_whole (n : Nat) : SpWhole (lx.dl (n + 1)) := sp_whole (Δ1 := lx.dl (n + 0)) (G := lx.gl) rfl
theorem s_entries (n : Nat) : SpEntries (lx.dl (n + 2)) := sp_entries (Δ1 := lx.dl (n + 1)) (G := lx.gl) rfl (s_whole (n + 0)) (s_rising (n + 0))
theorem s_table (n : Nat) : SpTable (lx.dl (n + 3)) := sp_table (Δ1 := lx.dl (n + 2)) (G := lx.gl) rfl (s_rising (n + 1)) (s_entries (n + 0))
theorem s_needtable (n : Nat) : SpNeedTable (lx.dl (n + 4)) := sp_needtable (Δ1 := lx.dl (n + 3)) (G := lx.gl) rfl (s_table (n + 0))
theorem s_sizeof (n : Nat) : SpSizeOf (lx.dl (n + 1)) := sp_sizeof (Δ1 := lx.dl (n + 0)) (G := lx.gl) rfl
theorem s_places (n : Nat) : SpPlaces (lx.dl (n + 1)) := sp_places (Δ1 := lx.dl (n + 0)) (G := lx.gl) rfl
theorem s_at (n : Nat) : SpAt (lx.dl (n + 1)) := sp_at (Δ1 := lx.dl (n + 0)) (G := lx.gl) rfl
theorem s_numof (n : Nat) : SpNumOf (lx.dl (n + 5)) := sp_numof (Δ1 := lx.dl (n + 4)) (G := lx.gl) rfl (s_needtable (n + 0)) (s_sizeof (n + 3)) (s_places (n + 3)) (s_at (n + 3))
theorem s_size (n : Nat) : SpSize (lx.dl (n + 2)) := sp_size (Δ1 := lx.dl (n + 1)) (G := lx.gl) rfl (s_whole (n + 0))
theorem s_needsize (n : Nat) : SpNeedSize (lx.dl (n + 3)) := sp_needsize (Δ1 := lx.dl (n + 2)) (G := lx.gl) rfl (s_size (n + 0))
theorem s_goodnum (n : Nat) : SpGoodNum (lx.dl (n + 4)) := sp_goodnum (Δ1 := lx.dl (n + 3)) (G := lx.gl) rfl (s_table (n + 0)) (s_sizeof (n + 2)) (s_places (n + 2)) (s_at (n + 2))
theorem s_isnum (n : Nat) : SpIsNum (lx.dl (n + 5)) := sp_isnum (Δ1 := lx.dl (n + 4)) (G := lx.gl) rfl (s_needsize (n + 1)) (s_goodnum (n + 0))
theorem s_few (n : Nat) : SpFew (lx.dl (n + 1)) := sp_few (Δ1 := lx.dl (n + 0)) (G := lx.gl) rfl
theorem s_allnum (n : Nat) : SpAllNum (lx.dl (n + 1)) := sp_allnum (Δ1 := lx.dl (n + 0)) (G := lx.gl) rfl
theorem s_numat (n : Nat) : SpNumAt (lx.dl (n + 4)) := sp_numat (Δ1 := lx.dl (n + 3)) (G := lx.gl) rfl (s_needsize (n + 0)) (s_few (n + 2)) (s_allnum (n + 2)) (s_whole (n + 2))
theorem s_rank (n : Nat) : SpRank (lx.dl (n + 5)) := sp_rank (Δ1 := lx.dl (n + 4)) (G := lx.gl) rfl (s_needsize (n + 1)) (s_goodnum (n + 0)) (s_few (n + 3)) (s_allnum (n + 3))
theorem s_dice (n : Nat) : DiceOk (lx.dl (n + 2)) := dice_of (Δ1 := lx.dl (n + 1)) (Δ2 := lx.dl n) (G1 := lx.gl) (G2 := lx.gl) rfl rfl
theorem s_anysize (n : Nat) : SizeOk (lx.dl (n + 3)) := size_of (Δ1 := lx.dl (n + 2)) (G1 := lx.gl) rfl (s_dice (n + 0))
theorem s_anytable (n : Nat) : TabOk (lx.dl (n + 3)) := tab_of (Δ1 := lx.dl (n + 2)) (G1 := lx.gl) rfl (s_dice (n + 0))
def st16 (c k : Int) (r n : Nat) (M a4 a5 a6 a7 a10 : Sl) : Rho := [.un, .own false [.int c, .int k], .val (szD r n), M, a4, a5, a6, a7, .un, .un, a10]
theorem cnt_small (ρ : Rho) : ∀ p ∈ sizes12, callD (lx.dl 50 73) false [.dat (szD p.1 p.2)] ρ = .ok (.int (((lev p.1 p.2 (p.1 * p.2)).length : Nat) : Int)) ρ := by
  intro p hp
  rw [sizes12_eq] at hp
  simp only [List.mem_cons, List.not_mem_nil, or_false] at hp
  rcases hp with rfl | rfl | rfl | rfl | rfl | rfl | rfl | rfl | rfl | rfl | rfl | rfl | rfl | rfl | rfl <;> kernel_rfl
theorem cnt_44 (ρ : Rho) : callD (lx.dl 50 73) false [.dat (szD 4 4)] ρ = .ok (.int 24024) ρ := by kernel_rfl
def bB16 : ISs := (.cons (.ifs (.cmp .ne (.told (.call 77 false (.val (.var 2) (.val (.var 7) .nil)))) (.tup (.cons (.str "error") (.cons (.str "InvalidCount") .nil)))) (.cons (.ret (.bl false)) .nil) .nil) .nil)
def bBig : ISs := (.cons (.ifs (.cmp .ne (.told (.call 77 false (.val (.var 2) (.val (.int 0) .nil)))) (.tup (.cons (.str "error") (.cons (.str "TooLarge") .nil)))) (.cons (.ret (.bl false)) .nil) .nil) (.cons (.ifs (.cmp .ne (.told (.call 78 false (.val (.var 2) (.val (.var 3) .nil)))) (.tup (.cons (.str "error") (.cons (.str "TooLarge") .nil)))) (.cons (.ret (.bl false)) .nil) .nil) .nil))
def bSma : ISs := (.cons (.set 5 (.call 8 false (.slo 1 (.val (.var 4) .nil)))) (.cons (.set 6 (.call 77 false (.val (.var 2) (.val (.var 5) .nil)))) (.cons (.ifs (.or (.cons (.not (.call 70 false (.val (.var 2) (.val (.var 6) .nil)))) (.cons (.cmp .ne (.call 78 false (.val (.var 2) (.val (.var 6) .nil))) (.var 5)) .nil))) (.cons (.ret (.bl false)) .nil) .nil) (.cons (.ifs (.and (.cons (.cmp .lt (.bin .add (.var 5) (.int 1)) (.var 4)) (.cons (.cmp .le (.call 77 false (.val (.var 2) (.val (.bin .add (.var 5) (.int 1)) .nil))) (.var 6)) .nil))) (.cons (.ret (.bl false)) .nil) .nil) (.cons (.ifs (.or (.cons (.cmp .ne (.call 77 false (.val (.var 2) (.val (.call 78 false (.val (.var 2) (.val (.var 3) .nil))) .nil))) (.var 3)) (.cons (.not (.cmp2 .le .lt (.int 0) (.call 78 false (.val (.var 2) (.val (.var 3) .nil))) (.var 4))) .nil))) (.cons (.ret (.bl false)) .nil) .nil) (.cons (.for_ (.nm 7) (.dat (.lst (.cons (.neg (.int 1)) (.cons (.var 4) (.cons (.bl true) (.cons .non (.cons (.str "0") .nil))))))) bB16) .nil))))))
theorem den_cmp2 {Δ : Nat → Fn} {G : List (Str × D)} {a b c : IE} {ρ ρ1 ρ2 ρ3 : Rho} {i j k : Int} (h1 : den Δ G a ρ = .ok (.int i) ρ1) (h2 : den Δ G b ρ1 = .ok (.int j) ρ2) (h3 : den Δ G c ρ2 = .ok (.int k) ρ3) (h : i ≤ j) : den Δ G (.cmp2 .le .lt a b c) ρ = .ok (.bool (decide (j < k))) ρ3 := by
  show (den Δ G a ρ).bind _ = _
  rw [h1, Res.bind_ok]
  show (den Δ G b ρ1).bind _ = _
  rw [h2, Res.bind_ok]
  have e : C2.le.den (.int i) (.int j) = some (.bool true) := by
    rw [C2.den]
    show some (PyData.bool (decide (i ≤ j))) = _
    rw [decide_eq_true h]
  rw [e]
  show (den Δ G c ρ2).bind _ = _
  rw [h3]; rfl
theorem small16 (c k : Int) {r n : Nat} (hr : 1 ≤ r ∧ r ≤ 4) (hn : 1 ≤ n ∧ n ≤ 4) (hm : r * n ≤ 12) {e : Nat → Nat → Int} (hris : Rising r n e) (a5 a6 a7 a10 : Sl) :
    ∃ c' k' b5 b6 b7, denSs (lx.dl 50) lx.gl bSma (st16 c k r n (.val (tbD r n (nbF r n e))) (.val (.int (((srt r n).length : Nat) : Int))) a5 a6 a7 a10) = .nx (st16 c' k' r n (.val (tbD r n (nbF r n e))) (.val (.int (((srt r n).length : Nat) : Int))) b5 b6 b7 a10) := by
  let m := (srt r n).length
  let MD := tbD r n (nbF r n e)
  have hmet := all_met (nb_rising hris) (nb_perm (e := e) hr.2 hn.2)
  obtain ⟨q, hq⟩ := List.getElem?_of_mem hmet
  have hqm : q < m := (List.getElem?_eq_some_iff.mp hq).1
  have hml : m ≤ 1000 := by
    have := lev_few hr hn hm (r * n) (Nat.le_refl _)
    have h2 := (srt_perm r n).length_eq
    show (srt r n).length ≤ 1000
    omega
  let S0 := st16 c k r n (.val MD) (.val (.int (m : Int))) a5 a6 a7 a10
  obtain ⟨v, c1, k1, hv, e1⟩ := roll_nat (s_dice 48 : DiceOk (lx.dl 50)) (ρ := S0) (j := 1) (fx := false) (c := c) (k := k) (m := m) rfl (by omega) (by omega)
  let S1 := st16 c1 k1 r n (.val MD) (.val (.int (m : Int))) a5 a6 a7 a10
  have e1' : callD (lx.dl 50 8) false [.slo 1, .dat (.int (m : Int))] S0 = .ok (.int v) S1 := e1
  obtain ⟨x, hx⟩ : ∃ x, (srt r n)[v]? = some x := ⟨_, List.getElem?_eq_getElem hv⟩
  let S2 := st16 c1 k1 r n (.val MD) (.val (.int (m : Int))) (.val (.int (v : Int))) a6 a7 a10
  have t2 : callD (lx.dl 50 77) false [.dat (szD r n), .dat (.int (v : Int))] S2 = .ok (rowsD2 x) S2 := (s_numat 46 : SpNumAt (lx.dl 50)).ok r n v x S2 hr hn hm hx
  let S3 := st16 c1 k1 r n (.val MD) (.val (.int (m : Int))) (.val (.int (v : Int))) (.val (rowsD2 x)) a7 a10
  obtain ⟨ex, x1, x2, x3⟩ := srt_good hr hn hm (List.mem_of_getElem? hx)
  have t3 : callD (lx.dl 50 70) false [.dat (szD r n), .dat (rowsD2 x)] S3 = .ok (.bool true) S3 := by
    rw [x1]
    have h := (s_isnum 45 : SpIsNum (lx.dl 50)).ok r n ex S3 hr hn x2
    rw [decide_eq_true x3] at h
    exact h
  have t4 : callD (lx.dl 50 78) false [.dat (szD r n), .dat (rowsD2 x)] S3 = .ok (.int (v : Int)) S3 := (s_rank 45 : SpRank (lx.dl 50)).ok r n v x S3 hr hn hm hx
  have t5 : callD (lx.dl 50 78) false [.dat (szD r n), .dat MD] S3 = .ok (.int (q : Int)) S3 := by
    have h := (s_rank 45 : SpRank (lx.dl 50)).ok r n q (rowsOf r n (nbF r n e)) S3 hr hn hm hq
    rw [rows_tb] at h
    exact h
  have t6 : callD (lx.dl 50 77) false [.dat (szD r n), .dat (.int (q : Int))] S3 = .ok MD S3 := by
    have h := (s_numat 46 : SpNumAt (lx.dl 50)).ok r n q (rowsOf r n (nbF r n e)) S3 hr hn hm hq
    rw [rows_tb] at h
    exact h
  unfold bSma
  show ∃ c' k' b5 b6 b7, denSs (lx.dl 50) lx.gl _ S0 = .nx (st16 c' k' r n (.val MD) (.val (.int (m : Int))) b5 b6 b7 a10)
  rw [ss_nx (s_set (den_call (ars := [.slo 1, .dat (.int (m : Int))]) rfl e1'))]
  show ∃ c' k' b5 b6 b7, denSs (lx.dl 50) lx.gl _ S2 = .nx (st16 c' k' r n (.val MD) (.val (.int (m : Int))) b5 b6 b7 a10)
  rw [ss_nx (s_set (den_call (ars := [.dat (szD r n), .dat (.int (v : Int))]) rfl t2))]
  show ∃ c' k' b5 b6 b7, denSs (lx.dl 50) lx.gl _ S3 = .nx (st16 c' k' r n (.val MD) (.val (.int (m : Int))) b5 b6 b7 a10)
  rw [ss_nx (ρ1 := S3) (s_if_f (den_or2 (v := false) (w := false) (den_not (v := true) (den_call (ars := [.dat (szD r n), .dat (rowsD2 x)]) rfl t3)) fun _ => ?h1))]
  case h1 =>
    have := den_nei (Δ := lx.dl 50) (G := lx.gl) (a := .call 78 false (.val (.var 2) (.val (.var 6) .nil))) (b := .var 5) (ρ := S3) (ρ1 := S3) (ρ2 := S3) (i := (v : Int)) (j := (v : Int)) (den_call (ars := [.dat (szD r n), .dat (rowsD2 x)]) rfl t4) rfl
    rw [decide_eq_true rfl] at this
    exact this
  have g1 : den (lx.dl 50) lx.gl (.bin .add (.var 5) (.int 1)) S3 = .ok (.int (((v + 1 : Nat)) : Int)) S3 := by
    have : (((v + 1 : Nat)) : Int) = (v : Int) + 1 := by omega
    rw [this]
    exact den_addi rfl rfl
  rw [ss_nx (ρ1 := S3) (s_if_f ?h2)]
  case h2 =>
    have := den_and2 (Δ := lx.dl 50) (G := lx.gl) (v := decide ((((v + 1 : Nat)) : Int) < (m : Int))) (w := false) (a := .cmp .lt (.bin .add (.var 5) (.int 1)) (.var 4)) (b := .cmp .le (.call 77 false (.val (.var 2) (.val (.bin .add (.var 5) (.int 1)) .nil))) (.var 6)) (ρ := S3) (ρ1 := S3) (den_lt g1 rfl) (fun hlt => by
      have hlt := of_decide_eq_true hlt
      have hv1 : v + 1 < (srt r n).length := by show v + 1 < m; omega
      obtain ⟨y, hy⟩ : ∃ y, (srt r n)[v + 1]? = some y := ⟨_, List.getElem?_eq_getElem hv1⟩
      have t7 : callD (lx.dl 50 77) false [.dat (szD r n), .dat (.int (((v + 1 : Nat)) : Int))] S3 = .ok (rowsD2 y) S3 := (s_numat 46 : SpNumAt (lx.dl 50)).ok r n (v + 1) y S3 hr hn hm hy
      refine den_cmp (o := .le) (x := rowsD2 y) (y := rowsD2 x) (den_call (ars := [.dat (szD r n), .dat (.int (((v + 1 : Nat)) : Int))]) (dA_val (ρ1 := S3) rfl (dA_val g1 rfl)) t7) rfl ?_
      rw [le2_den]
      have ex : (srt r n)[v] = x := (List.getElem?_eq_some_iff.mp hx).2
      have ey : (srt r n)[v + 1] = y := (List.getElem?_eq_some_iff.mp hy).2
      have h1 := List.pairwise_iff_getElem.mp (srt_pw r n) v (v + 1) hv hv1 (by omega)
      have h2 := List.pairwise_iff_getElem.mp (srt_nodup hr hn hm) v (v + 1) hv hv1 (by omega)
      rw [ex, ey] at h1 h2
      rw [lt2_of h1 h2]; rfl)
    rw [Bool.and_false] at this
    exact this
  rw [ss_nx (ρ1 := S3) (s_if_f (den_or2 (v := false) (w := false) ?h3 fun _ => ?h4))]
  case h3 =>
    exact den_ne (x := MD) (y := MD) (den_call (ars := [.dat (szD r n), .dat (.int (q : Int))]) (dA_val (ρ1 := S3) rfl (dA_val (den_call (ars := [.dat (szD r n), .dat MD]) rfl t5) rfl)) t6) rfl (ne_tb _ _ _)
  case h4 =>
    have := den_cmp2 (Δ := lx.dl 50) (G := lx.gl) (a := .int 0) (b := .call 78 false (.val (.var 2) (.val (.var 3) .nil))) (c := .var 4) (ρ := S3) (ρ1 := S3) (ρ2 := S3) (ρ3 := S3) (i := 0) (j := (q : Int)) (k := (m : Int)) rfl (den_call (ars := [.dat (szD r n), .dat MD]) rfl t5) rfl (by omega)
    rw [decide_eq_true (by omega)] at this
    exact den_not this
  let bads : List D := [.int (-1), .int (m : Int), .bool true, .none, .str "0"]
  have hb : ∀ d ∈ bads, isWh d 0 (((srt r n).length : Int) - 1) = false := by
    intro d hd
    have hd : d = .int (-1) ∨ d = .int (m : Int) ∨ d = .bool true ∨ d = .none ∨ d = .str "0" := by simpa [bads] using hd
    rcases hd with rfl | rfl | rfl | rfl | rfl
    · simp [isWh]
    · have : ¬ ((m : Int) ≤ ((srt r n).length : Int) - 1) := by show ¬ (((srt r n).length : Int) ≤ _); omega
      simp only [isWh, decide_eq_false this, Bool.and_false]
    · rfl
    · rfl
    · rfl
  rw [ss_cons, s_forD (d := .list bads) (ds := bads) (ρ1 := S3) rfl rfl]
  obtain ⟨ρ', e6, b7, hI⟩ := for_all (p := .nm 7) (body := denSs (lx.dl 50) lx.gl bB16) (fun ρ => ∃ b7, ρ = st16 c1 k1 r n (.val MD) (.val (.int (m : Int))) (.val (.int (v : Int))) (.val (rowsD2 x)) b7 a10) bads S3 ⟨_, rfl⟩ (fun d hd ρ ⟨b7, h⟩ => by
    subst h
    let T := st16 c1 k1 r n (.val MD) (.val (.int (m : Int))) (.val (.int (v : Int))) (.val (rowsD2 x)) (.val d) a10
    refine ⟨T, T, rfl, ?_, _, rfl⟩
    unfold bB16
    rw [ss_nx (s_if_f (ρ1 := T) (den_ne (x := errD .count) (y := errD .count) (den_told (den_call_xc (ars := [.dat (szD r n), .dat d]) rfl ((s_numat 46 : SpNumAt (lx.dl 50)).bad r n d T hr hn hm (hb d hd)))) rfl (ne_err _)))]
    rfl)
  rw [e6, SR.seq_nx]
  subst hI
  exact ⟨_, _, _, _, _, rfl⟩
theorem bad_long {ds : List D} (h : 4 < ds.length) : isTab (.tuple ds) = false := by
  show ((decide (1 ≤ ds.length) && decide (ds.length ≤ 4)) && _) = false
  rw [decide_eq_false (show ¬ ds.length ≤ 4 by omega), Bool.and_false, Bool.false_and]
theorem twice_bad {r n : Nat} (hr : 1 ≤ r ∧ r ≤ 4) (hn : 1 ≤ n ∧ n ≤ 4) {f : Nat → Nat → Int} (hf : Rising r n f) : isTab (.tuple (((List.range r).map fun i => rowD n (f i)) ++ (List.range r).map fun i => rowD n (f i))) = false := by
  by_cases h4 : 4 < r + r
  · exact bad_long (by simp; omega)
  · let g : Nat → Nat → Int := fun i => if i < r then f i else f (i - r)
    have e2 : PyData.tuple (((List.range r).map fun i => rowD n (f i)) ++ (List.range r).map fun i => rowD n (f i)) = tbD (r + r) n g := by
      have k1 : (List.range r).map (fun i => rowD n (f i)) = (List.range r).map fun i => rowD n (g i) := by
        apply List.map_congr_left
        intro i hi
        have hi := List.mem_range.mp hi
        have : g i = f i := if_pos hi
        rw [this]
      have k2 : (List.range r).map (fun i => rowD n (f i)) = ((List.range r).map fun i => r + i).map fun i => rowD n (g i) := by
        rw [List.map_map]
        apply List.map_congr_left
        intro i _
        have : g (r + i) = f i := by
          have h1 : g (r + i) = f (r + i - r) := if_neg (by omega)
          rw [h1, Nat.add_sub_cancel_left]
        show rowD n (f i) = rowD n (g (r + i))
        rw [this]
      unfold tbD
      rw [List.range_add, List.map_append, ← k2, ← k1]
    rw [e2]
    cases hq : isTab (tbD (r + r) n g) with
    | false => rfl
    | true =>
      exfalso
      have h := ((isTab_iff (r := r + r) (by omega) hn).mp hq).2
      have h1 := h.col (r - 1) 0 (by omega) (by omega)
      rw [show r - 1 + 1 = r by omega] at h1
      have h2 : g r 0 = f 0 0 := congrFun (show g r = f 0 from (if_neg (by omega)).trans (by rw [Nat.sub_self])) 0
      have h3 : g (r - 1) 0 = f (r - 1) 0 := congrFun (show g (r - 1) = f (r - 1) from if_pos (by omega)) 0
      have h4 := mono_col hf (i := 0) (j := 0) (by omega) (r - 1) (by omega)
      rw [Nat.zero_add] at h4
      rw [h2, h3] at h1
      omega
def bC16 : ISs := (.cons (.ifs (.cmp .ne (.told (.call 78 false (.val (.var 2) (.val (.var 7) .nil)))) (.tup (.cons (.str "error") (.cons (.str "InvalidNumbering") .nil)))) (.cons (.ret (.bl false)) .nil) .nil) .nil)
theorem plain : lx.Plain 50 := by
  refine ⟨fun ns m hc => rnd_plain (Δ1 := lx.dl 49) (G1 := lx.gl) rfl ns m hc, ⟨by decide, by decide⟩, fun c => ?_⟩
  let R0 : Int → Int → Rho := fun c k => [.un, .own false [.int c, .int k], .un, .un, .un, .un, .un, .un, .un, .un, .un]
  obtain ⟨r, n, c1, k1, hr, hn, e1⟩ := size_call (s_anysize 47 : SizeOk (lx.dl 50)) (ρ := R0 c 0) (j := 1) (fx := false) (m := 4) (c := c) (k := 0) rfl (by decide) (by decide)
  obtain ⟨r, rfl⟩ : ∃ q : Nat, r = q := ⟨r.toNat, by omega⟩
  obtain ⟨n, rfl⟩ : ∃ q : Nat, n = q := ⟨n.toNat, by omega⟩
  have hr : 1 ≤ r ∧ r ≤ 4 := by omega
  have hn : 1 ≤ n ∧ n ≤ 4 := by omega
  show ∃ ρ', denSs (lx.dl 50) lx.gl (.cons (.set 2 (.call 12 false (.slo 1 (.val (.int 4) .nil)))) (.cons (.set 3 (.call 71 false (.val (.call 14 false (.slo 1 (.val (.var 2) .nil))) .nil))) (.cons (.set 4 (.call 73 false (.val (.var 2) .nil))) (.cons (.ifs (.cmp .eq (.var 2) (.tup (.cons (.int 4) (.cons (.int 4) .nil)))) bBig bSma) (.cons (.set 10 _) (.cons (.for_ (.nm 7) (.dat (.var 10)) bC16) .nil)))))) (R0 c 0) = .nx ρ' ∧ ρ'.length = 11
  let S0 := st16 c1 k1 r n .un .un .un .un .un .un
  rw [ss_nx (s_set (den_call (ars := [.slo 1, .dat (.int 4)]) rfl e1))]
  show ∃ ρ', denSs (lx.dl 50) lx.gl _ S0 = .nx ρ' ∧ ρ'.length = 11
  obtain ⟨e, c2, k2, ht, e2⟩ := tab_call (s_anytable 47 : TabOk (lx.dl 50)) (ρ := S0) (j := 1) (fx := false) (c := c1) (k := k1) rfl hr hn
  let S0' := st16 c2 k2 r n .un .un .un .un .un .un
  have e2' : callD (lx.dl 50 14) false [.slo 1, .dat (szD r n)] S0 = .ok (tbD r n e) S0' := e2
  have htab := ht.tab hr hn
  have hris : Rising r n e := ⟨ht.row, ht.col⟩
  let MD := tbD r n (nbF r n e)
  have t1 : callD (lx.dl 50 71) false [.dat (tbD r n e)] S0' = .ok MD S0' := (s_numof 45 : SpNumOf (lx.dl 50)).ok r n e S0' hr hn htab
  rw [ss_nx (s_set (den_call (ars := [.dat (tbD r n e)]) (dA_val (den_call (ars := [.slo 1, .dat (szD r n)]) rfl e2') rfl) t1))]
  let S1 := st16 c2 k2 r n (.val MD) .un .un .un .un .un
  show ∃ ρ', denSs (lx.dl 50) lx.gl _ S1 = .nx ρ' ∧ ρ'.length = 11
  have hnt : isTab (tbD r n (nbF r n e)) = true := nb_tab hr hn hris
  have hns : entS r n (nbF r n e) = upTo1 (r * n) := nb_sorted hr.2 hn.2
  have hcond : eqD (szD r n) (szD 4 4) = some (.bool (decide (r = 4 ∧ n = 4))) := by
    have := eq_pl (r, n) (4, 4)
    rw [show szD r n = plD (r, n) from rfl, show szD 4 4 = plD (4, 4) from rfl, this]
    simp [Prod.ext_iff]
  have mid : ∃ c3 k3 b4 b5 b6 b7, denSs (lx.dl 50) lx.gl (.cons (.set 4 (.call 73 false (.val (.var 2) .nil))) (.cons (.ifs (.cmp .eq (.var 2) (.tup (.cons (.int 4) (.cons (.int 4) .nil)))) bBig bSma) .nil)) S1 = .nx (st16 c3 k3 r n (.val MD) b4 b5 b6 b7 .un) := by
    by_cases h44 : r = 4 ∧ n = 4
    · have hc44 : callD (lx.dl 50 73) false [.dat (szD r n)] S1 = .ok (.int 24024) S1 := by rw [h44.1, h44.2]; exact cnt_44 _
      have hbig : 12 < r * n := by rw [h44.1, h44.2]; decide
      let S2 := st16 c2 k2 r n (.val MD) (.val (.int 24024)) .un .un .un .un
      refine ⟨c2, k2, .val (.int 24024), .un, .un, .un, ?_⟩
      rw [ss_nx (s_set (den_call (ars := [.dat (szD r n)]) rfl hc44))]
      show denSs (lx.dl 50) lx.gl _ S2 = .nx S2
      have hcd : den (lx.dl 50) lx.gl (.cmp .eq (.var 2) (.tup (.cons (.int 4) (.cons (.int 4) .nil)))) S2 = .ok (.bool true) S2 := by
        rw [decide_eq_true h44] at hcond
        exact den_eq (x := szD r n) (y := szD 4 4) rfl rfl hcond
      rw [ss_nx (ρ1 := S2)]
      · rfl
      · rw [s_if hcd]
        show denSs (lx.dl 50) lx.gl bBig S2 = _
        unfold bBig
        rw [ss_nx (ρ1 := S2) (s_if_f (den_ne (x := errD .toolarge) (y := errD .toolarge) (den_told (den_call_xc (ars := [.dat (szD r n), .dat (.int 0)]) rfl ((s_numat 46 : SpNumAt (lx.dl 50)).big r n (.int 0) S2 hr hn hbig))) rfl (ne_err _)))]
        rw [ss_nx (ρ1 := S2) (s_if_f (den_ne (x := errD .toolarge) (y := errD .toolarge) (den_told (den_call_xc (ars := [.dat (szD r n), .dat MD]) rfl ((s_rank 45 : SpRank (lx.dl 50)).big r n (nbF r n e) S2 hr hn hnt hns hbig))) rfl (ne_err _)))]
        rfl
    · have hm12 : r * n ≤ 12 := by
        rcases (show r ≤ 3 ∨ n ≤ 3 by omega) with h | h
        · exact Nat.mul_le_mul h hn.2
        · exact Nat.mul_le_mul hr.2 h
      have hcs : callD (lx.dl 50 73) false [.dat (szD r n)] S1 = .ok (.int (((srt r n).length : Nat) : Int)) S1 := by
        have hle := (srt_perm r n).length_eq
        generalize (srt r n).length = L at hle ⊢
        subst hle
        exact cnt_small S1 (r, n) (mem_12 hr hn hm12)
      let S2 := st16 c2 k2 r n (.val MD) (.val (.int (((srt r n).length : Nat) : Int))) .un .un .un .un
      obtain ⟨c3, k3, b5, b6, b7, hs⟩ := small16 c2 k2 hr hn hm12 hris .un .un .un .un
      refine ⟨c3, k3, .val (.int (((srt r n).length : Nat) : Int)), b5, b6, b7, ?_⟩
      rw [ss_nx (s_set (den_call (ars := [.dat (szD r n)]) rfl hcs))]
      show denSs (lx.dl 50) lx.gl _ S2 = _
      have hcd : den (lx.dl 50) lx.gl (.cmp .eq (.var 2) (.tup (.cons (.int 4) (.cons (.int 4) .nil)))) S2 = .ok (.bool false) S2 := by
        rw [decide_eq_false h44] at hcond
        exact den_eq (x := szD r n) (y := szD 4 4) rfl rfl hcond
      rw [ss_nx (ρ1 := st16 c3 k3 r n (.val MD) (.val (.int (((srt r n).length : Nat) : Int))) b5 b6 b7 .un)]
      · rfl
      · rw [s_if hcd]
        exact hs
  obtain ⟨c3, k3, b4, b5, b6, b7, hmid⟩ := mid
  have happ : ∀ (a b : IS) (rest : ISs) (ρ ρ1 : Rho), denSs (lx.dl 50) lx.gl (.cons a (.cons b .nil)) ρ = .nx ρ1 → denSs (lx.dl 50) lx.gl (.cons a (.cons b rest)) ρ = denSs (lx.dl 50) lx.gl rest ρ1 := fun a b rest ρ ρ1 h => by
    rw [ss_cons] at h ⊢
    cases ha : denS (lx.dl 50) lx.gl a ρ with
    | nx ρ2 =>
      rw [ha, SR.seq_nx] at h
      rw [SR.seq_nx]
      rw [ss_cons] at h ⊢
      cases hb : denS (lx.dl 50) lx.gl b ρ2 with
      | nx ρ3 =>
        rw [hb, SR.seq_nx] at h
        have h : SR.nx ρ3 = .nx ρ1 := h
        cases h
        rfl
      | _ => rw [hb] at h; cases h
    | _ => rw [ha] at h; cases h
  rw [happ _ _ _ _ _ hmid]
  let S3 := st16 c3 k3 r n (.val MD) b4 b5 b6 b7 .un
  show ∃ ρ', denSs (lx.dl 50) lx.gl _ S3 = .nx ρ' ∧ ρ'.length = 11
  let f : Nat → Nat → Int := fun i j => nbF r n e i j + 1
  let cases4 : List D := [.none, .tuple [], .tuple (((List.range r).map fun i => rowD n (nbF r n e i)) ++ (List.range r).map fun i => rowD n (nbF r n e i)), tbD r n f]
  have g10 : den (lx.dl 50) lx.gl (.lst (.cons .non (.cons (.tup .nil) (.cons (.bin .add (.var 3) (.var 3)) (.cons (.blt .tuple (.cons (.comp (.nm 8) [("_law_row", 8)] (.dat (.var 3)) .yes (.blt .tuple (.cons (.comp (.nm 9) [("_law_entry", 9)] (.dat (.var 8)) .yes (.bin .add (.var 9) (.int 1))) .nil))) .nil)) .nil))))) S3 = .ok (.list cases4) S3 := by
    have h3 : den (lx.dl 50) lx.gl (.bin .add (.var 3) (.var 3)) S3 = .ok (.tuple (((List.range r).map fun i => rowD n (nbF r n e i)) ++ (List.range r).map fun i => rowD n (nbF r n e i))) S3 := den_addt (ρ1 := S3) rfl rfl (by simp; omega)
    have h4 : den (lx.dl 50) lx.gl (.blt .tuple (.cons (.comp (.nm 8) [("_law_row", 8)] (.dat (.var 3)) .yes (.blt .tuple (.cons (.comp (.nm 9) [("_law_entry", 9)] (.dat (.var 8)) .yes (.bin .add (.var 9) (.int 1))) .nil))) .nil)) S3 = .ok (tbD r n f) S3 :=
      map_tb (e := nbF r n e) (d := MD) (s := .un) (s2 := .un) rfl rfl (by decide) hr.2 hn.2 rfl rfl rfl rfl rfl rfl (fun i j hi hj => den_addi rfl rfl)
    exact den_lst (dens_cons (ρ1 := S3) rfl (dens_cons (ρ1 := S3) rfl (dens_cons h3 (den_one h4))))
  rw [ss_nx (s_set g10)]
  let S4 := st16 c3 k3 r n (.val MD) b4 b5 b6 b7 (.val (.list cases4))
  show ∃ ρ', denSs (lx.dl 50) lx.gl _ S4 = .nx ρ' ∧ ρ'.length = 11
  have hbad : ∀ d ∈ cases4, ∀ ρ, callD (lx.dl 50 78) false [.dat (szD r n), .dat d] ρ = .exc .numbering ρ := by
    intro d hd ρ
    have hno : ∀ d, isTab d = false → callD (lx.dl 50 78) false [.dat (szD r n), .dat d] ρ = .exc .numbering ρ := fun d h => (s_rank 45 : SpRank (lx.dl 50)).no r n d ρ hr hn h
    have hd : d = .none ∨ d = .tuple [] ∨ d = .tuple (((List.range r).map fun i => rowD n (nbF r n e i)) ++ (List.range r).map fun i => rowD n (nbF r n e i)) ∨ d = tbD r n f := by
      simpa [cases4] using hd
    rcases hd with rfl | rfl | rfl | rfl
    · exact hno _ rfl
    · exact hno _ (by kernel_rfl)
    · exact hno _ (twice_bad hr hn (nb_rising hris))
    · cases hq : isTab (tbD r n f) with
      | false => exact hno _ hq
      | true =>
        refine (s_rank 45 : SpRank (lx.dl 50)).ne r n f ρ hr hn hq fun z => ?_
        have h1 : (1 : Int) ∈ upTo1 (r * n) := List.mem_map.mpr ⟨0, List.mem_range.mpr (Nat.mul_pos hr.1 hn.1), rfl⟩
        rw [← z] at h1
        obtain ⟨p, hp, h2⟩ := List.mem_map.mp ((isort_perm _).mem_iff.mp h1)
        have h3 := nb_bounds (e := e) hr.2 hn.2 (mem_allP.mp hp).1 (mem_allP.mp hp).2
        have h2 : nbF r n e p.1 p.2 + 1 = 1 := h2
        omega
  rw [ss_cons, s_forD (d := .list cases4) (ds := cases4) (ρ1 := S4) rfl rfl]
  obtain ⟨ρ', e7, b12, hI⟩ := for_all (p := .nm 7) (body := denSs (lx.dl 50) lx.gl bC16) (fun ρ => ∃ b7, ρ = st16 c3 k3 r n (.val MD) b4 b5 b6 b7 (.val (.list cases4))) cases4 S4 ⟨_, rfl⟩ (fun d hd ρ ⟨b7, h⟩ => by
    subst h
    let T := st16 c3 k3 r n (.val MD) b4 b5 b6 (.val d) (.val (.list cases4))
    refine ⟨T, T, rfl, ?_, _, rfl⟩
    unfold bC16
    rw [ss_nx (s_if_f (ρ1 := T) (den_ne (x := errD .numbering) (y := errD .numbering) (den_told (den_call_xc (ars := [.dat (szD r n), .dat d]) rfl (hbad d hd T))) rfl (ne_err _)))]
    rfl)
  rw [e7, SR.seq_nx]
  subst hI
  exact ⟨_, rfl, rfl⟩

end Dm

open PySem PySem.W PySem.Calls PyProof.Rows
theorem PySem.Challenge.cw_stairsearch_k16_whole_ranks_holds : PySem.Challenge.rw_stairsearch_k16_whole_ranks.Holds := by
  w_on; o_law
  refine HandSHeadRun.head_any (r := OpenLaw.row PySem.Challenge.rw_stairsearch_k16_whole_ranks) (q := view (OpenLaw.row PySem.Challenge.rw_stairsearch_k16_whole_ranks).prog [46]) (H := Dm.hk) (ob := Dm.ob) (M := 12000) (loose := Dm.loose) (d := HandSHeadRun.topDef (OpenLaw.row PySem.Challenge.rw_stairsearch_k16_whole_ranks).prog 46) (kwd := []) Dm.ob_eq
    (by kernel_rfl) (fun s => by kernel_rfl) Dm.run (by kernel_rfl) (by kernel_rfl) (by kernel_rfl) (by rfl) (by first | assumption | decide +kernel) (by decide +kernel) ⟨rfl, rfl, rfl, rfl, rfl, by decide +kernel⟩ ?hw ?hc
  case hw => w_witness2
  case hc =>
    refine LamX.walk_ofTsE (l := PySem.Challenge.rw_stairsearch_k16_whole_ranks) (n := 63) (k := 205) (x := "_law_script") (CX := fun w => L2N.CX (PySem.Challenge.rw_stairsearch_k16_whole_ranks).prog w) rfl (by decide) (by kernel_rfl) ⟨rfl, by decide, by decide⟩ ?F (fun _ _ _ _ _ ⟨_, _, _, _, _, _, _, _, _, _, _, _, z⟩ => z)
    intro w mg fa h Y G hmg0
    obtain ⟨K, KX, c⟩ := Y
    have hmg : mg ("law" : PySem.Str) = some (.ref fa) := by
      have e : (HandSHeadRun.topDef (OpenLaw.row PySem.Challenge.rw_stairsearch_k16_whole_ranks).prog 46).name = ("law" : PySem.Str) := by kernel_rfl
      rw [← e]
      exact hmg0
    exact ⟨K, KX, Dm.law_at KX G c hmg rfl Dm.lx_ok Dm.binds Dm.plain⟩
