import PyProof.Rows.All
import Wide.All
import OpenK.AllK
import Wide.FinOn
import PySem.Challenge.RW_nu0255_01
open PySem PySem.W PyProof.Rows PySem.Calls
set_option Elab.async false
set_option linter.unusedVariables false
set_option linter.unusedSimpArgs false
set_option maxRecDepth 100000
set_option backward.match.sparseCases false
set_option genSizeOf false
set_option genSizeOfSpec false
set_option genInjectivity false
namespace Mine
noncomputable section

structure Cx where
  prog : Program
  w : World
  B : Heap
  K : Frag
  mg : Str → Option Value
  mb : Str → Option Value
abbrev Cx.M (C : Cx) : Model := model C.prog C.w
abbrev Cx.sk (C : Cx) := PySem.strKind C.prog C.w
abbrev up (s : Shared) (h : Heap) (tk : Nat) : Shared := { s with heap := h, toks := tk }
inductive V where
  | none | bool (b : Bool) | int (i : Int) | str (s : Str)
  | tup (l : List V) | lst (l : List V) | dct (l : List (Str × V))
  | loc (n : Nat) | obj (C : Addr) (n : Nat)
inductive Cell where
  | list (l : List V)
  | dict (l : List (Str × V))
  | seen (l : List (List Str))
structure Rg where
  l : List Addr
  f : List Addr
abbrev tupO (vs : List Value) (n : Nat) : Obj := { cls := .type "tuple", data := .seq vs.toArray n }
abbrev lstO (vs : List Value) (n : Nat) : Obj := { cls := .type "list", data := .seq vs.toArray n }
section
variable (C : Cx)
mutual
inductive Rep (h : Heap) (ρ : Rg) : Value → V → Prop
  | none : Rep h ρ .none .none
  | bool (b : Bool) : Rep h ρ (.bool b) (.bool b)
  | int (i : Int) (t : Tok) : Rep h ρ (.int i t) (.int i)
  | str (s : Str) (t : Tok) : PyData.strOk s = true → Rep h ρ (.str s t) (.str s)
  | tup {a : Addr} {vs : List Value} {n : Nat} {ds : List V} : a ∉ ρ.l → a ∉ ρ.f → h.get? a = some (tupO vs n) → RepL h ρ vs ds → Rep h ρ (.ref a) (.tup ds)
  | lst {a : Addr} {vs : List Value} {n : Nat} {ds : List V} : a ∉ ρ.l → a ∉ ρ.f → h.get? a = some (lstO vs n) → RepL h ρ vs ds → Rep h ρ (.ref a) (.lst ds)
  | dct {a : Addr} {o : Obj} {kvs : List (Str × Value)} {ds : List (Str × V)} : (a == sysModules) = false → a ∉ ρ.l → a ∉ ρ.f → h.get? a = some o → o.IsDictOf (C.sk) kvs → RepK h ρ kvs ds → Rep h ρ (.ref a) (.dct ds)
  | loc {a : Addr} {n : Nat} : ρ.l[n]? = some a → Rep h ρ (.ref a) (.loc n)
  | obj {x C dx : Addr} {n : Nat} : x ∉ ρ.l → x ∉ ρ.f → h.get? x = some (instObj C dx) → ρ.l[n]? = some dx → Rep h ρ (.ref x) (.obj C n)
inductive RepL (h : Heap) (ρ : Rg) : List Value → List V → Prop
  | nil : RepL h ρ [] []
  | cons {v : Value} {vs : List Value} {d : V} {ds : List V} : Rep h ρ v d → RepL h ρ vs ds → RepL h ρ (v :: vs) (d :: ds)
inductive RepK (h : Heap) (ρ : Rg) : List (Str × Value) → List (Str × V) → Prop
  | nil : RepK h ρ [] []
  | cons {k : Str} {v : Value} {vs : List (Str × Value)} {d : V} {ds : List (Str × V)} : Rep h ρ v d → RepK h ρ vs ds → RepK h ρ ((k, v) :: vs) ((k, d) :: ds)
end
inductive SqAt (h : Heap) (ρ : Rg) (v : Value) (cls : String) (ds : List V) : Prop
  | mk (a : Addr) (vs : List Value) (n : Nat) (e : v = .ref a) (nl : a ∉ ρ.l) (nf : a ∉ ρ.f) (g : h.get? a = some { cls := .type cls, data := .seq vs.toArray n }) (r : RepL C h ρ vs ds)
inductive DcAt (h : Heap) (ρ : Rg) (v : Value) (ds : List (Str × V)) : Prop
  | mk (a : Addr) (o : Obj) (kvs : List (Str × Value)) (e : v = .ref a) (z : (a == sysModules) = false) (nl : a ∉ ρ.l) (nf : a ∉ ρ.f) (g : h.get? a = some o) (i : o.IsDictOf C.sk kvs) (r : RepK C h ρ kvs ds)
inductive ObAt (h : Heap) (ρ : Rg) (v : Value) (c : Addr) (n : Nat) : Prop
  | mk (x dx : Addr) (e : v = .ref x) (nl : x ∉ ρ.l) (nf : x ∉ ρ.f) (g : h.get? x = some (instObj c dx)) (l : ρ.l[n]? = some dx)
def Sees (h : Heap) (ρ : Rg) (v : Value) : V → Prop
  | .none => v = .none
  | .bool b => v = .bool b
  | .int i => ∃ t, v = .int i t
  | .str s => ∃ t, v = .str s t ∧ PyData.strOk s = true
  | .tup ds => SqAt C h ρ v "tuple" ds
  | .lst ds => SqAt C h ρ v "list" ds
  | .dct ds => DcAt C h ρ v ds
  | .loc n => ∃ a, v = .ref a ∧ ρ.l[n]? = some a
  | .obj c n => ObAt h ρ v c n
def CellAt (h : Heap) (ρ : Rg) (a : Addr) : Cell → Prop
  | .list ds => ∃ vs n, h.get? a = some (lstO vs n) ∧ RepL C h ρ vs ds
  | .dict ds => ∃ o kvs, h.get? a = some o ∧ o.IsDictOf (C.sk) kvs ∧ RepK C h ρ kvs ds
  | .seen ks => ∃ xs : List (List Str × Addr × Value), h.DictOfH (tupleKind (C.sk)) a xs ∧ xs.map (·.1) = ks ∧ (∀ x ∈ xs, (x.2.1 ∉ ρ.l ∧ x.2.1 ∉ ρ.f) ∧ ∃ i, x.2.2 = Value.bool i)
def Own1 (h : Heap) (a : Addr) : Prop := C.B.get? a = .none ∧ ∃ o, h.get? a = some o
structure St (h : Heap) (ρ : Rg) (σ : List Cell) : Prop where
  len : ρ.l.length = σ.length
  nd : ρ.l.Nodup
  cell : ∀ (n : Nat) (a : Addr) (c : Cell), ρ.l[n]? = some a → σ[n]? = some c → CellAt C h ρ a c
  base : ∀ b o, C.B.get? b = some o → h.get? b = some o
  own : ∀ a, a ∈ ρ.l ∨ a ∈ ρ.f → Own1 C h a
  dj : ∀ a ∈ ρ.l, a ∉ ρ.f
  sy : ∀ a ∈ ρ.l, (a == sysModules) = false
structure GrowC (X : List Addr) (h : Heap) (ρ : Rg) (h' : Heap) (ρ' : Rg) : Prop where
  pre : ∃ t, ρ'.l = ρ.l ++ t
  fr : ρ'.f = ρ.f
  fresh : ∀ a ∈ ρ'.l, a ∉ ρ.l → h.get? a = .none
  kp : ∀ b o, b ∉ ρ.l → b ∉ X → h.get? b = some o → h'.get? b = some o
abbrev Grow := GrowC []
end
section
variable {C : Cx} {h h' h'' : Heap} {ρ ρ' ρ'' : Rg} {σ σ' : List Cell} {X Y : List Addr}
theorem none_of {h : Heap} {a : Addr} (k : ∀ o, h.get? a = some o → False) : h.get? a = .none := by
  cases e : h.get? a with
  | none => rfl
  | some o => exact (k o e).elim
theorem no_both {h : Heap} {a : Addr} {o : Obj} {P : Prop} (e : h.get? a = .none) (e' : h.get? a = some o) : P := nomatch e.symm.trans e'
theorem St.off (S : St C h ρ σ) (a : Addr) (m : a ∈ ρ.l ∨ a ∈ ρ.f) : C.B.get? a = .none := (S.own a m).1
theorem St.inh (S : St C h ρ σ) (a : Addr) (m : a ∈ ρ.l ∨ a ∈ ρ.f) : ∃ o, h.get? a = some o := (S.own a m).2
theorem GrowC.refl : GrowC X h ρ h ρ := ⟨⟨[], (List.append_nil _).symm⟩, rfl, fun a m n => absurd m n, fun _ _ _ _ e => e⟩
theorem GrowC.keep (g : Grow h ρ h' ρ') (b : Addr) (o : Obj) (m : b ∉ ρ.l) (e : h.get? b = some o) : h'.get? b = some o := g.kp b o m List.not_mem_nil e
theorem GrowC.get (g : GrowC X h ρ h' ρ') {n : Nat} {a : Addr} (e : ρ.l[n]? = some a) : ρ'.l[n]? = some a := by
  obtain ⟨t, q⟩ := g.pre
  rw [q, List.getElem?_append_left (List.getElem?_eq_some_iff.mp e).1]; exact e
theorem GrowC.mem (g : GrowC X h ρ h' ρ') {a : Addr} (m : a ∈ ρ.l) : a ∈ ρ'.l := by
  obtain ⟨t, q⟩ := g.pre; rw [q]; exact List.mem_append_left _ m
theorem GrowC.notMem (g : GrowC X h ρ h' ρ') {a : Addr} {o : Obj} (m : a ∉ ρ.l) (e : h.get? a = some o) : a ∉ ρ'.l := fun q => no_both (g.fresh a q m) e
theorem GrowC.trans (g : GrowC X h ρ h' ρ') (g' : GrowC X h' ρ' h'' ρ'') (own : ∀ a ∈ X, a ∉ ρ''.l) : GrowC X h ρ h'' ρ'' := by
  obtain ⟨t, q⟩ := g.pre
  obtain ⟨t', q'⟩ := g'.pre
  exact ⟨⟨t ++ t', by rw [q', q, List.append_assoc]⟩, g'.fr.trans g.fr, fun a m n => none_of fun o e => (Classical.em (a ∈ ρ'.l)).elim (fun q => no_both (g.fresh a q n) e) fun q => no_both (g'.fresh a m q) (g.kp a o n (fun z => own a z m) e),
    fun b o m n e => g'.kp b o (g.notMem m e) n (g.kp b o m n e)⟩
theorem Grow.trans (g : Grow h ρ h' ρ') (g' : Grow h' ρ' h'' ρ'') : Grow h ρ h'' ρ'' := GrowC.trans g g' fun _ q => nomatch q
theorem GrowC.wide (g : GrowC Y h ρ h' ρ') (sub : ∀ a ∈ Y, a ∈ X) : GrowC X h ρ h' ρ' := ⟨g.pre, g.fr, g.fresh, fun b o m n e => g.kp b o m (fun z => n (sub b z)) e⟩
theorem GrowC.c (g : Grow h ρ h' ρ') : GrowC X h ρ h' ρ' := g.wide fun _ q => nomatch q
structure Carry (h : Heap) (ρ : Rg) (h' : Heap) (ρ' : Rg) : Prop where
  get : ∀ {n : Nat} {a : Addr}, ρ.l[n]? = some a → ρ'.l[n]? = some a
  at_ : ∀ {a : Addr} {o : Obj}, a ∉ ρ.l → a ∉ ρ.f → h.get? a = some o → a ∉ ρ'.l ∧ a ∉ ρ'.f ∧ h'.get? a = some o
theorem GrowC.carryX (g : GrowC X h ρ h' ρ') (wf : ∀ b ∈ X, b ∈ ρ.f) : Carry h ρ h' ρ' := ⟨fun e => g.get e, fun m n e => ⟨g.notMem m e, by rw [g.fr]; exact n, g.kp _ _ m (fun z => n (wf _ z)) e⟩⟩
theorem GrowC.carry (g : Grow h ρ h' ρ') : Carry h ρ h' ρ' := g.carryX fun _ q => nomatch q
theorem Rep.sees {v : Value} {d : V} (r : Rep C h ρ v d) : Sees C h ρ v d := by
  cases r with
  | none => exact rfl
  | bool b => exact rfl
  | int i t => exact ⟨t, rfl⟩
  | str s t k => exact ⟨t, rfl, k⟩
  | tup m n e r => exact ⟨_, _, _, rfl, m, n, e, r⟩
  | lst m n e r => exact ⟨_, _, _, rfl, m, n, e, r⟩
  | dct z m n e i r => exact ⟨_, _, _, rfl, z, m, n, e, i, r⟩
  | loc e => exact ⟨_, rfl, e⟩
  | obj m n e x => exact ⟨_, _, rfl, m, n, e, x⟩
theorem RepL.seen {vs : List Value} {ds : List V} (r : RepL C h ρ vs ds) : match ds with
    | [] => vs = []
    | d :: ds => ∃ v ws, vs = v :: ws ∧ Rep C h ρ v d ∧ RepL C h ρ ws ds := by
  cases r with
  | nil => exact rfl
  | cons a r => exact ⟨_, _, rfl, a, r⟩
theorem RepL.one {vs : List Value} {d : V} (r : RepL C h ρ vs [d]) : ∃ v, vs = [v] ∧ Rep C h ρ v d := by
  obtain ⟨v, ws, e, a, r⟩ := r.seen
  exact ⟨v, by rw [e, r.seen], a⟩
theorem RepL.two {vs : List Value} {d d' : V} (r : RepL C h ρ vs [d, d']) : ∃ v v', vs = [v, v'] ∧ Rep C h ρ v d ∧ Rep C h ρ v' d' := by
  obtain ⟨v, ws, e, a, r⟩ := r.seen
  obtain ⟨v', e', a'⟩ := r.one
  exact ⟨v, v', by rw [e, e'], a, a'⟩
theorem RepL.ind {P : List Value → List V → Prop} (n : P [] []) (c : ∀ {v vs d ds}, Rep C h ρ v d → RepL C h ρ vs ds → P vs ds → P (v :: vs) (d :: ds)) {vs : List Value} {ds : List V} (r : RepL C h ρ vs ds) : P vs ds :=
  RepL.rec (motive_1 := fun _ _ _ => True) (motive_2 := fun vs ds _ => P vs ds) (motive_3 := fun _ _ _ => True) trivial (fun _ => trivial) (fun _ _ => trivial) (fun _ _ _ => trivial) (fun _ _ _ _ _ => trivial) (fun _ _ _ _ _ => trivial) (fun _ _ _ _ _ _ _ => trivial) (fun _ => trivial) (fun _ _ _ _ => trivial) n (fun a b _ k => c a b k) trivial (fun _ _ _ _ => trivial) r
theorem RepK.ind {P : List (Str × Value) → List (Str × V) → Prop} (n : P [] []) (c : ∀ {k v vs d ds}, Rep C h ρ v d → RepK C h ρ vs ds → P vs ds → P ((k, v) :: vs) ((k, d) :: ds)) {vs : List (Str × Value)} {ds : List (Str × V)} (r : RepK C h ρ vs ds) : P vs ds :=
  RepK.rec (motive_1 := fun _ _ _ => True) (motive_2 := fun _ _ _ => True) (motive_3 := fun vs ds _ => P vs ds) trivial (fun _ => trivial) (fun _ _ => trivial) (fun _ _ _ => trivial) (fun _ _ _ _ _ => trivial) (fun _ _ _ _ _ => trivial) (fun _ _ _ _ _ _ _ => trivial) (fun _ => trivial) (fun _ _ _ _ => trivial) trivial (fun _ _ _ _ => trivial) n (fun a b _ k => c a b k) r
theorem Rep.carry (g : Carry h ρ h' ρ') {v : Value} {d : V} (r : Rep C h ρ v d) : Rep C h' ρ' v d :=
  Rep.rec (motive_1 := fun v d _ => Rep C h' ρ' v d) (motive_2 := fun vs ds _ => RepL C h' ρ' vs ds) (motive_3 := fun vs ds _ => RepK C h' ρ' vs ds) .none .bool .int .str
    (fun m n e _ r => let ⟨a, b, c⟩ := g.at_ m n e; .tup a b c r) (fun m n e _ r => let ⟨a, b, c⟩ := g.at_ m n e; .lst a b c r) (fun z m n e i _ r => let ⟨a, b, c⟩ := g.at_ m n e; .dct z a b c i r) (fun e => .loc (g.get e)) (fun m n e x => let ⟨a, b, c⟩ := g.at_ m n e; .obj a b c (g.get x))
    .nil (fun _ _ a b => .cons a b) .nil (fun _ _ a b => .cons a b) r
theorem RepL.carry (g : Carry h ρ h' ρ') {v : List Value} {d : List V} (r : RepL C h ρ v d) : RepL C h' ρ' v d := r.ind .nil fun a _ k => .cons (a.carry g) k
theorem RepK.carry (g : Carry h ρ h' ρ') {v : List (Str × Value)} {d : List (Str × V)} (r : RepK C h ρ v d) : RepK C h' ρ' v d := r.ind .nil fun a _ k => .cons (a.carry g) k
theorem Rep.grow (g : Grow h ρ h' ρ') {v : Value} {d : V} (r : Rep C h ρ v d) : Rep C h' ρ' v d := r.carry g.carry
theorem RepL.grow (g : Grow h ρ h' ρ') {v : List Value} {d : List V} (r : RepL C h ρ v d) : RepL C h' ρ' v d := r.carry g.carry
theorem RepK.grow (g : Grow h ρ h' ρ') {v : List (Str × Value)} {d : List (Str × V)} (r : RepK C h ρ v d) : RepK C h' ρ' v d := r.carry g.carry
theorem RepL.length {vs : List Value} {ds : List V} (r : RepL C h ρ vs ds) : vs.length = ds.length := r.ind (P := fun vs ds => vs.length = ds.length) rfl fun _ _ k => congrArg (· + 1) k
theorem RepL.append {vs vs' : List Value} {ds ds' : List V} (r : RepL C h ρ vs ds) (b : RepL C h ρ vs' ds') : RepL C h ρ (vs ++ vs') (ds ++ ds') :=
  r.ind (P := fun vs ds => RepL C h ρ (vs ++ vs') (ds ++ ds')) b fun a _ k => .cons a k
theorem RepL.get {vs : List Value} {ds : List V} (r : RepL C h ρ vs ds) : ∀ {n : Nat} {d : V}, ds[n]? = some d → ∃ v, vs[n]? = some v ∧ Rep C h ρ v d :=
  r.ind (P := fun vs ds => ∀ {n : Nat} {d : V}, ds[n]? = some d → ∃ v, vs[n]? = some v ∧ Rep C h ρ v d) (fun e => nomatch e) fun a _ k n => n.casesOn (fun e => ⟨_, rfl, Option.some.inj e ▸ a⟩) fun n e => k (n := n) e
theorem RepL.drop {vs : List Value} {ds : List V} (r : RepL C h ρ vs ds) : ∀ n, RepL C h ρ (vs.drop n) (ds.drop n) :=
  r.ind (P := fun vs ds => ∀ n, RepL C h ρ (vs.drop n) (ds.drop n)) (fun n => n.casesOn .nil fun _ => .nil) fun a r k n => n.casesOn (.cons a r) k
theorem RepL.take {vs : List Value} {ds : List V} (r : RepL C h ρ vs ds) : ∀ n, RepL C h ρ (vs.take n) (ds.take n) :=
  r.ind (P := fun vs ds => ∀ n, RepL C h ρ (vs.take n) (ds.take n)) (fun n => n.casesOn .nil fun _ => .nil) fun a r k n => n.casesOn .nil fun n => .cons a (k n)
theorem RepK.keys {vs : List (Str × Value)} {ds : List (Str × V)} (r : RepK C h ρ vs ds) : vs.map (·.1) = ds.map (·.1) := r.ind (P := fun vs ds => vs.map (·.1) = ds.map (·.1)) rfl fun {k' _ _ _ _} _ _ k => congrArg (List.cons k') k
theorem valueAt_cons (k x : Str) (v : Value) (vs : List (Str × Value)) : valueAt ((k, v) :: vs) x = if k = x then some v else valueAt vs x := by
  by_cases q : k = x <;> simp [valueAt, q]
theorem lookup_if {α : Type} (k x : Str) (v : α) (vs : List (Str × α)) : ((k, v) :: vs).lookup x = if k = x then some v else vs.lookup x := by
  rw [List.lookup_cons]
  by_cases q : k = x
  · rw [if_pos q, q, beq_self_eq_true]
  · rw [if_neg q, beq_eq_false_iff_ne.mpr (Ne.symm q)]
theorem RepK.lookup {vs : List (Str × Value)} {ds : List (Str × V)} (r : RepK C h ρ vs ds) : ∀ {x : Str} {d : V}, ds.lookup x = some d → ∃ v, valueAt vs x = some v ∧ Rep C h ρ v d :=
  r.ind (P := fun vs ds => ∀ {x : Str} {d : V}, ds.lookup x = some d → ∃ v, valueAt vs x = some v ∧ Rep C h ρ v d) (fun e => nomatch e) fun {k v vs d ds} a _ ih x d' e => by
    rw [lookup_if] at e
    rw [valueAt_cons]
    by_cases q : k = x
    · rw [if_pos q] at e ⊢; exact ⟨v, rfl, Option.some.inj e ▸ a⟩
    · rw [if_neg q] at e ⊢; exact ih e
abbrev Full (h h' : Heap) : Prop := ∀ b o, h.get? b = some o → h'.get? b = some o
theorem Full.grow (k : Full h h') : Grow h ρ h' ρ := ⟨⟨[], (List.append_nil _).symm⟩, rfl, fun _ m n => absurd m n, fun b o _ _ e => k b o e⟩
theorem Full.push (o : Obj) : Full h (h.push o) := fun _ _ e => Heap.get?_push_of_some _ e
theorem IsTupleKey_keep {ks : List Str} {a : Addr} (x : (tupleKind (C.sk)).is h ks a) (k : ∀ o, h.get? a = some o → h'.get? a = some o) : (tupleKind (C.sk)).is h' ks a := by
  change IsTupleKey (C.sk) h ks a at x
  change IsTupleKey (C.sk) h' ks a
  obtain ⟨o, it, n, ho, r⟩ := x
  exact ⟨o, it, n, k _ ho, r⟩
theorem DictOfH_keep {d : Addr} {xs : List (List Str × Addr × Value)} (x : h.DictOfH (tupleKind (C.sk)) d xs) (k0 : ∀ o, h.get? d = some o → h'.get? d = some o) (k : ∀ y ∈ xs, ∀ o, h.get? y.2.1 = some o → h'.get? y.2.1 = some o) :
    h'.DictOfH (tupleKind (C.sk)) d xs := by
  obtain ⟨o, es, ep, ho, r1, r2, r3, r4, r5⟩ := x
  exact ⟨o, es, ep, k0 _ ho, r1, r2, r3, fun y hy => IsTupleKey_keep (r4 y hy) (k y hy), r5⟩
theorem CellAt.carry {a : Addr} {c : Cell} (g : Carry h ρ h' ρ') (k : ∀ o, h.get? a = some o → h'.get? a = some o) (x : CellAt C h ρ a c) : CellAt C h' ρ' a c := by
  cases c with
  | list ds => obtain ⟨vs, n, e, r⟩ := x; exact ⟨vs, n, k _ e, r.carry g⟩
  | dict ds => obtain ⟨o, kvs, e, i, r⟩ := x; exact ⟨o, kvs, k _ e, i, r.carry g⟩
  | seen ks =>
    obtain ⟨xs, d, e, r⟩ := x
    have ex : ∀ y ∈ xs, ∃ o, h.get? y.2.1 = some o := fun y hy => by
      obtain ⟨_, _, _, _, _, _, _, r4, _⟩ := d
      have := r4 y hy
      change IsTupleKey (C.sk) h y.1 y.2.1 at this
      obtain ⟨o, _, _, ho, _⟩ := this
      exact ⟨o, ho⟩
    refine ⟨xs, DictOfH_keep d k (fun y hy o ho => (g.at_ (r y hy).1.1 (r y hy).1.2 ho).2.2), e, fun y hy => ⟨?_, (r y hy).2⟩⟩
    obtain ⟨o, ho⟩ := ex y hy
    exact ⟨(g.at_ (r y hy).1.1 (r y hy).1.2 ho).1, (g.at_ (r y hy).1.1 (r y hy).1.2 ho).2.1⟩
theorem St.move {l f f' : List Addr} (S : St C h ⟨l, f⟩ σ) (c : Carry h ⟨l, f⟩ h' ⟨l, f'⟩) (kl : ∀ a ∈ l, ∀ o, h.get? a = some o → h'.get? a = some o) (kb : ∀ b o, C.B.get? b = some o → h.get? b = some o → h'.get? b = some o) (hf : ∀ a ∈ f', Own1 C h' a ∧ a ∉ l) : St C h' ⟨l, f'⟩ σ :=
  ⟨S.len, S.nd, fun n a d e1 e2 => (S.cell n a d e1 e2).carry c (kl a (List.mem_of_getElem? e1)), fun b o e => kb b o e (S.base b o e),
    fun a m => m.elim (fun m => let ⟨x, o, e⟩ := S.own a (.inl m); ⟨x, o, kl a m o e⟩) fun m => (hf a m).1, fun a m q => (hf a q).2 m, S.sy⟩
theorem St.onF (S : St C h ρ σ) {a : Addr} (m : a ∈ ρ.f) : Own1 C h a ∧ a ∉ ρ.l := ⟨S.own a (.inr m), fun q => S.dj a q m⟩
theorem Own1.keep {a : Addr} (x : Own1 C h a) (k : ∀ o, h.get? a = some o → h'.get? a = some o) : Own1 C h' a := ⟨x.1, x.2.imp k⟩
theorem St.full (S : St C h ρ σ) (k : Full h h') : St C h' ρ σ := S.move k.grow.carry (fun a _ => k a) (fun b o _ => k b o) fun a m => ⟨(S.onF m).1.keep (k a), (S.onF m).2⟩
theorem St.new (S : St C h ρ σ) {a : Addr} (e : h.get? a = .none) : C.B.get? a = .none ∧ a ∉ ρ.l ∧ a ∉ ρ.f :=
  ⟨none_of fun o q => no_both e (S.base a o q), fun m => let ⟨_, q⟩ := S.inh a (.inl m); no_both e q, fun m => let ⟨_, q⟩ := S.inh a (.inr m); no_both e q⟩
theorem none_of_size {h : Heap} {a : Addr} (l : h.objs.size ≤ a) : h.get? a = .none := none_of fun o e => absurd (Heap.lt_size e) (Nat.not_lt.mpr l)
theorem St.fresh_size (S : St C h ρ σ) : h.objs.size ∉ ρ.l ∧ h.objs.size ∉ ρ.f := (S.new (none_of_size (Nat.le_refl _))).2
abbrev Rg.snoc (ρ : Rg) (a : Addr) : Rg := ⟨ρ.l ++ [a], ρ.f⟩
theorem mem_snoc {l : List Addr} {a b : Addr} (m : b ∈ l ++ [a]) : b ∈ l ∨ b = a := (List.mem_append.mp m).imp id List.mem_singleton.mp
theorem Full.grow_snoc (k : Full h h') {a : Addr} (f : h.get? a = .none) : Grow h ρ h' (ρ.snoc a) :=
  ⟨⟨[a], rfl⟩, rfl, fun b m n => (mem_snoc m).elim (fun q => absurd q n) fun q => q ▸ f, fun b o _ _ e => k b o e⟩
theorem Full.enter {Ls : List Addr} (k : Full h h') (f : ∀ a ∈ Ls, h.get? a = none) : Carry h ρ h' ⟨ρ.l, Ls ++ ρ.f⟩ :=
  ⟨fun e => e, fun {a o} m n e => ⟨m, fun q => (List.mem_append.mp q).elim (fun q => no_both (f a q) e) n, k _ _ e⟩⟩
theorem St.pushed {ls : List Addr} (S : St C h ρ σ) (k : Full h h') (f : ∀ b ∈ ls, h.get? b = none) (i : ∀ b ∈ ls, ∃ o, h'.get? b = some o) : St C h' ⟨ρ.l, ls ++ ρ.f⟩ σ :=
  S.move (k.enter f) (fun a _ => k a) (fun b o _ => k b o) fun a m => (List.mem_append.mp m).elim (fun m => ⟨⟨(S.new (f a m)).1, i a m⟩, (S.new (f a m)).2.1⟩) fun m => ⟨(S.onF m).1.keep (k a), (S.onF m).2⟩
theorem adopt_carry {l f : List Addr} {a : Addr} : Carry h ⟨l, [a] ++ f⟩ h ⟨l ++ [a], f⟩ :=
  ⟨fun e => (List.getElem?_append_left (List.getElem?_eq_some_iff.mp e).1).trans e, fun n1 n2 e => ⟨fun q => (mem_snoc q).elim n1 fun q => n2 (q ▸ .head _), fun q => n2 (.tail _ q), e⟩⟩
theorem St.adopt {l f : List Addr} {a : Addr} {c : Cell} (S : St C h ⟨l, [a] ++ f⟩ σ) (nf : a ∉ f) (hy : (a == sysModules) = false) (hc : CellAt C h ⟨l ++ [a], f⟩ a c) : St C h ⟨l ++ [a], f⟩ (σ ++ [c]) := by
  have na := (S.onF (.head _)).2
  refine ⟨by simp [S.len], List.nodup_append.mpr ⟨S.nd, List.pairwise_singleton _ _, fun x hx y hy q => na (List.mem_singleton.mp hy ▸ q ▸ hx)⟩, fun n b d e1 e2 => ?_, S.base,
    fun b m => m.elim (fun m => (mem_snoc m).elim (fun q => S.own b (.inl q)) fun q => q ▸ (S.onF (.head _)).1) fun m => S.own b (.inr (.tail _ m)), fun b m => (mem_snoc m).elim (fun m q => S.dj b m (.tail _ q)) fun q => q ▸ nf, fun b m => (mem_snoc m).elim (S.sy b) fun q => q ▸ hy⟩
  change (l ++ [a])[n]? = some b at e1
  rcases Nat.lt_or_ge n l.length with q | q
  · rw [List.getElem?_append_left q] at e1
    rw [List.getElem?_append_left (S.len ▸ q)] at e2
    exact (S.cell n b d e1 e2).carry adopt_carry (fun o e => e)
  · rw [List.getElem?_append_right q] at e1
    rw [List.getElem?_append_right (S.len ▸ q), ← S.len] at e2
    cases z : n - l.length with
    | zero => rw [z] at e1; change ([c] : List Cell)[n - l.length]? = _ at e2; rw [z] at e2; exact Option.some.inj e1 ▸ Option.some.inj e2 ▸ hc
    | succ _ => rw [z] at e1; exact nomatch e1
theorem St.alloc {a : Addr} {c : Cell} {o : Obj} (S : St C h ρ σ) (k : Full h h') (f : h.get? a = .none) (hy : (a == sysModules) = false) (ho : h'.get? a = some o) (hc : CellAt C h' (ρ.snoc a) a c) : St C h' (ρ.snoc a) (σ ++ [c]) ∧ Grow h ρ h' (ρ.snoc a) :=
  ⟨(S.pushed (ls := [a]) k (fun b m => List.mem_singleton.mp m ▸ f) fun b m => List.mem_singleton.mp m ▸ ⟨o, ho⟩).adopt (S.new f).2.2 hy hc, k.grow_snoc f⟩
theorem St.update {a : Addr} {c : Cell} {n : Nat} (S : St C h ρ σ) (ha : ρ.l[n]? = some a) (hs : Heap.SameBut a h h') (hc : CellAt C h' ρ a c) (hi : ∃ o, h'.get? a = some o) : St C h' ρ (σ.set n c) ∧ Grow h ρ h' ρ := by
  have ma : a ∈ ρ.l := List.mem_of_getElem? ha
  have k : ∀ b, b ≠ a → ∀ o, h.get? b = some o → h'.get? b = some o := fun b n o e => (hs.2 b n).trans e
  have g : Grow h ρ h' ρ := ⟨⟨[], (List.append_nil _).symm⟩, rfl, fun _ m n => absurd m n, fun b o m _ e => k b (fun q => m (q ▸ ma)) o e⟩
  refine ⟨⟨by rw [List.length_set]; exact S.len, S.nd, fun j b d e1 e2 => ?_, fun b o e => k b (fun z => no_both (S.off a (.inl ma)) (z ▸ e)) o (S.base b o e), fun b m => (Classical.em (b = a)).elim (fun q => q ▸ ⟨S.off a (.inl ma), hi⟩) fun q => (S.own b m).keep (k b q), S.dj, S.sy⟩, g⟩
  by_cases q : n = j
  · subst q
    have l := (List.getElem?_eq_some_iff.mp e2).1
    rw [List.getElem?_set_self (by rwa [List.length_set] at l)] at e2
    exact Option.some.inj (ha.symm.trans e1) ▸ Option.some.inj e2 ▸ hc
  · rw [List.getElem?_set_ne q] at e2
    refine (S.cell j b d e1 e2).carry g.carry (k b fun z => q ?_)
    obtain ⟨p1, q1⟩ := List.getElem?_eq_some_iff.mp e1
    obtain ⟨p2, q2⟩ := List.getElem?_eq_some_iff.mp ha
    exact (List.getElem_inj S.nd).mp (q2.trans (q1.trans z).symm)
theorem frames_carry {wr : List Addr} (m : ∀ b ∈ wr, b ∈ ρ.f) (k : ∀ b o, b ∉ wr → h.get? b = some o → h'.get? b = some o) : Carry h ρ h' ρ :=
  ⟨fun e => e, fun {b o} n1 n2 e => ⟨n1, n2, k _ _ (fun q => n2 (m _ q)) e⟩⟩
theorem St.frames {wr : List Addr} (S : St C h ρ σ) (m : ∀ b ∈ wr, b ∈ ρ.f) (k : ∀ b o, b ∉ wr → h.get? b = some o → h'.get? b = some o) (i : ∀ b ∈ wr, ∃ o, h'.get? b = some o) : St C h' ρ σ :=
  S.move (frames_carry m k) (fun a q o e => k a o (fun z => S.dj a q (m a z)) e) (fun b o e => k b o fun z => no_both (S.off b (.inr (m b z))) e)
    fun a q => ⟨⟨S.off a (.inr q), (Classical.em (a ∈ wr)).elim (i a) fun z => (S.inh a (.inr q)).imp fun o => k a o z⟩, (S.onF q).2⟩
end

structure Cx.Ok (C : Cx) : Prop where
  KB : C.K.In C.B
  g : C.B.Ns mainGlobals C.mg
  b : C.B.Ns builtinsNs C.mb
  nolimit : C.B.NoLimit
  bs : ∀ x : Str, x ≠ "__name__" → C.mb x = bootBuiltins x
  big : sysModules < C.B.objs.size
structure Amb (A : Around) (H : Nat) : Prop where
  hd : A.handled = none
  dp : A.depth + H < 950
  un : A.units + 16 * H + 200 < 9900
theorem Amb.le {A : Around} {H H' : Nat} (a : Amb A H) (l : H' ≤ H) : Amb A H' := ⟨a.hd, Nat.lt_of_le_of_lt (Nat.add_le_add_left l _) a.dp, Nat.lt_of_le_of_lt (Nat.add_le_add_right (Nat.add_le_add_left (Nat.mul_le_mul_left 16 l) _) 200) a.un⟩
theorem Amb.room {A : Around} {H : Nat} (a : Amb A H) : A.depth < recursionLimit := Nat.lt_trans (Nat.lt_of_le_of_lt (Nat.le_add_right _ _) a.dp) (by decide)
theorem Amb.units {A : Around} {H : Nat} (a : Amb A H) : A.units + 64 < cLine :=
  Nat.lt_of_le_of_lt (Nat.add_le_add (Nat.le_add_right _ _) (by decide : 64 ≤ 200)) a.un
theorem Amb.units0 {A : Around} {H : Nat} (a : Amb A H) : A.units < cLine := Nat.lt_of_le_of_lt (Nat.le_add_right _ _) a.units
abbrev M := List (Str × V)
structure Fm (C : Cx) (env : Env) (m : M) (h : Heap) (ρ : Rg) : Prop where
  fn : env.scope.kind = .function
  gl : env.globals = mainGlobals
  bu : env.builtins = builtinsNs
  ns : ∃ ml, h.Ns env.locals ml ∧ ∀ x d, m.lookup x = some d → env.kindOf x = some .local → ∃ v, ml x = some v ∧ Rep C h ρ v d
  cl : ∀ x d, m.lookup x = some d → env.kindOf x ≠ some .local → (env.kindOf x = some .cell ∨ env.kindOf x = some .free) ∧ (x == ("__classdict__" : Str)) = false ∧ ∃ c v, env.cells.lookup x = some c ∧ h.IsCell c (some v) ∧ Rep C h ρ v d
  cs : ∀ p ∈ env.cells, ∃ v, h.IsCell p.2 v
  ap : env.cells.Pairwise fun x y => x.2 ≠ y.2
  offL : env.locals ∈ ρ.f
  offC : ∀ p ∈ env.cells, p.2 ∈ ρ.f
  db : ∀ x d, m.lookup x = some d → (x == ("__debug__" : Str)) = false
structure Pre (C : Cx) (H : Nat) (env : Env) (m : M) (σ : List Cell) (A : Around) (h : Heap) (ρ : Rg) : Prop where
  ok : C.Ok
  am : Amb A H
  st : St C h ρ σ
  fm : Fm C env m h ρ
section
variable {C : Cx} {h h' : Heap} {ρ ρ' : Rg} {σ σ' : List Cell} {env : Env} {m : M}
abbrev envW (env : Env) : List Addr := env.locals :: env.cells.map (·.2)
theorem cell_envW {p : Str × Addr} (hp : p ∈ env.cells) : p.2 ∈ envW env := .tail _ (List.mem_map_of_mem hp)
theorem Fm.off (F : Fm C env m h ρ) : ∀ b ∈ envW env, b ∈ ρ.f := fun b q => (List.mem_cons.mp q).elim (fun q => q ▸ F.offL) fun q => let ⟨p, hp, e⟩ := List.mem_map.mp q; e ▸ F.offC p hp
theorem Fm.move (F : Fm C env m h ρ) (c : Carry h ρ h' ρ') (k : ∀ a ∈ envW env, ∀ o, h.get? a = some o → h'.get? a = some o) (fr : ∀ a ∈ envW env, a ∈ ρ'.f) : Fm C env m h' ρ' := by
  obtain ⟨ml, ⟨o, es, ep, ho, r⟩, hl⟩ := F.ns
  have kc : ∀ p ∈ env.cells, ∀ v, h.IsCell p.2 v → h'.IsCell p.2 v := fun p hp v ⟨o, ho, hd⟩ => ⟨o, k _ (cell_envW hp) o ho, hd⟩
  refine ⟨F.fn, F.gl, F.bu, ⟨ml, ⟨o, es, ep, k _ (.head _) _ ho, r⟩, fun x d e q => (hl x d e q).imp fun v z => ⟨z.1, z.2.carry c⟩⟩, fun x d e q => ?_, fun p hp => (F.cs p hp).imp (kc p hp), F.ap, fr _ (.head _), fun p hp => fr _ (cell_envW hp), F.db⟩
  obtain ⟨a, b, c', v, e, i, r⟩ := F.cl x d e q
  exact ⟨a, b, c', v, e, kc _ (mem_of_lookup e) _ i, r.carry c⟩
theorem Fm.grow (F : Fm C env m h ρ) (S : St C h ρ σ) (g : Grow h ρ h' ρ') : Fm C env m h' ρ' :=
  F.move g.carry (fun a m o e => g.keep a o (fun q => S.dj a q (F.off a m)) e) fun a m => by rw [g.fr]; exact F.off a m
theorem Fm.live (F : Fm C env m h ρ) : ∀ b ∈ envW env, ∃ o, h.get? b = some o := fun b q => by
  rcases List.mem_cons.mp q with rfl | q
  · obtain ⟨_, ⟨o, _, _, e, _⟩, _⟩ := F.ns
    exact ⟨o, e⟩
  · obtain ⟨p, hp, rfl⟩ := List.mem_map.mp q
    obtain ⟨_, o, ho, _⟩ := F.cs p hp
    exact ⟨o, ho⟩
end
inductive Got (C : Cx) (s : Shared) (ρ : Rg) (Q : V → List Cell → Prop) (v : Value) (s' : Shared) : Prop
  | mk (d : V) (h' : Heap) (tk : Nat) (ρ' : Rg) (σ' : List Cell) (e : s' = (up s h' tk)) (g : Grow s.heap ρ h' ρ') (S : St C h' ρ' σ') (R : Rep C h' ρ' v d) (q : Q d σ')
inductive GotL (C : Cx) (s : Shared) (ρ : Rg) (Q : List V → List Cell → Prop) (vs : List Value) (s' : Shared) : Prop
  | mk (ds : List V) (h' : Heap) (tk : Nat) (ρ' : Rg) (σ' : List Cell) (e : s' = (up s h' tk)) (g : Grow s.heap ρ h' ρ') (S : St C h' ρ' σ') (R : RepL C h' ρ' vs ds) (q : Q ds σ')
inductive GotB (C : Cx) (s : Shared) (ρ : Rg) (Q : Bool → List Cell → Prop) (b : Bool) (s' : Shared) : Prop
  | mk (h' : Heap) (tk : Nat) (ρ' : Rg) (σ' : List Cell) (e : s' = (up s h' tk)) (g : Grow s.heap ρ h' ρ') (S : St C h' ρ' σ') (q : Q b σ')
def WL (C : Cx) (H : Nat) (env : Env) (e : Expr) (m : M) (σ : List Cell) (Q : V → List Cell → Prop) : Prop :=
  ∀ A s ρ, Pre C H env m σ A s.heap ρ → wpAny (C.M) A (eval e env) (Got C s ρ Q) (fun _ _ => False) s
def WLs (C : Cx) (H : Nat) (env : Env) (es : List Expr) (m : M) (σ : List Cell) (Q : List V → List Cell → Prop) : Prop :=
  ∀ A s ρ pos, Pre C H env m σ A s.heap ρ → wpAny (C.M) A (spliced (backTo pos (starEach es env))) (GotL C s ρ Q) (fun _ _ => False) s
def WB (C : Cx) (H : Nat) (env : Env) (e : Expr) (m : M) (σ : List Cell) (Q : Bool → List Cell → Prop) : Prop :=
  ∀ A s ρ, Pre C H env m σ A s.heap ρ → wpAny (C.M) A (isTrue e env (eval e env)) (GotB C s ρ Q) (fun _ _ => False) s
inductive Fl where
  | next | brk | cont
  | ret (d : V)
def FlRep (C : Cx) (h : Heap) (ρ : Rg) : Flow → Fl → Prop
  | .next, .next => True
  | .brk, .brk => True
  | .cont, .cont => True
  | .ret v, .ret d => Rep C h ρ v d
  | _, _ => False
abbrev GrowF (env : Env) := GrowC (envW env)
inductive Ran (C : Cx) (env : Env) (s : Shared) (ρ : Rg) (Q : Fl → M → List Cell → Prop) (f : Flow) (s' : Shared) : Prop
  | mk (fl : Fl) (m' : M) (h' : Heap) (tk : Nat) (ρ' : Rg) (σ' : List Cell) (e : s' = (up s h' tk)) (g : GrowF env s.heap ρ h' ρ') (S : St C h' ρ' σ') (F : Fm C env m' h' ρ') (R : FlRep C h' ρ' f fl) (q : Q fl m' σ')
def WX (C : Cx) (H : Nat) (env : Env) (b : List Stmt) (m : M) (σ : List Cell) (Q : Fl → M → List Cell → Prop) : Prop :=
  ∀ A s ρ, Pre C H env m σ A s.heap ρ → wpAny (C.M) A (execs b env) (Ran C env s ρ Q) (fun _ _ => False) s
def W1 (C : Cx) (H : Nat) (env : Env) (b : Stmt) (m : M) (σ : List Cell) (Q : Fl → M → List Cell → Prop) : Prop :=
  ∀ A s ρ, Pre C H env m σ A s.heap ρ → wpAny (C.M) A (exec b env) (Ran C env s ρ Q) (fun _ _ => False) s
def WA (C : Cx) (H : Nat) (env : Env) (t : Expr) (d : V) (m : M) (σ : List Cell) (Q : M → List Cell → Prop) : Prop :=
  ∀ A s ρ v, Pre C H env m σ A s.heap ρ → Rep C s.heap ρ v d →
    wpAny (C.M) A (assign t env v) (fun _ s' => Ran C env s ρ (fun _ m σ => Q m σ) .next s') (fun _ _ => False) s
section
variable {C : Cx} {H : Nat} {env : Env} {m : M} {σ : List Cell} {A : Around} {h h' : Heap} {ρ ρ' : Rg} {σ' : List Cell}
theorem Pre.grow (P : Pre C H env m σ A h ρ) (g : Grow h ρ h' ρ') (S : St C h' ρ' σ') : Pre C H env m σ' A h' ρ' :=
  ⟨P.ok, P.am, S, P.fm.grow P.st g⟩
theorem Got.trans {s : Shared} {h₁ : Heap} {tk : Nat} {ρ₁ : Rg} {Q : V → List Cell → Prop} (g : Grow s.heap ρ h₁ ρ₁) {v : Value} {s' : Shared} (x : Got C (up s h₁ tk) ρ₁ Q v s') : Got C s ρ Q v s' := by
  obtain ⟨d, h', tk', ρ', σ', e, g', r, r2, r3⟩ := x
  exact ⟨d, h', tk', ρ', σ', e, g.trans g', r, r2, r3⟩
theorem GotL.trans {s : Shared} {h₁ : Heap} {tk : Nat} {ρ₁ : Rg} {Q : List V → List Cell → Prop} (g : Grow s.heap ρ h₁ ρ₁) {v : List Value} {s' : Shared} (x : GotL C (up s h₁ tk) ρ₁ Q v s') : GotL C s ρ Q v s' := by
  obtain ⟨d, h', tk', ρ', σ', e, g', r, r2, r3⟩ := x
  exact ⟨d, h', tk', ρ', σ', e, g.trans g', r, r2, r3⟩
theorem GotB.trans {s : Shared} {h₁ : Heap} {tk : Nat} {ρ₁ : Rg} {Q : Bool → List Cell → Prop} (g : Grow s.heap ρ h₁ ρ₁) {v : Bool} {s' : Shared} (x : GotB C (up s h₁ tk) ρ₁ Q v s') : GotB C s ρ Q v s' := by
  obtain ⟨h', tk', ρ', σ', e, g', r, r2⟩ := x
  exact ⟨h', tk', ρ', σ', e, g.trans g', r, r2⟩
theorem Fm.noOwn (F : Fm C env m h ρ) (S : St C h ρ σ) : ∀ a ∈ envW env, a ∉ ρ.l := fun a q z => S.dj a z (F.off a q)
end

structure Ok0 (C : Cx) (H : Nat) (σ : List Cell) (A : Around) (h : Heap) (ρ : Rg) : Prop where
  ok : C.Ok
  am : Amb A H
  st : St C h ρ σ
def Bop (C : Cx) (H : Nat) (op : Operator) (a b : V) (σ : List Cell) (Q : V → List Cell → Prop) : Prop :=
  ∀ A s ρ va vb, Ok0 C H σ A s.heap ρ → Rep C s.heap ρ va a → Rep C s.heap ρ vb b → wpAny (C.M) A (binaryOp op va vb) (Got C s ρ Q) (fun _ _ => False) s
def Cop (C : Cx) (H : Nat) (op : CmpOp) (a b : V) (σ : List Cell) (Q : Bool → Prop) : Prop :=
  ∀ A s ρ va vb, Ok0 C H σ A s.heap ρ → Rep C s.heap ρ va a → Rep C s.heap ρ vb b → wpAny (C.M) A (compareOp op va vb) (fun v s' => ∃ b tk, v = .bool b ∧ s' = (up s s.heap tk) ∧ Q b) (fun _ _ => False) s
section
variable {C : Cx} {H : Nat} {env : Env} {m m' : M} {σ σ' : List Cell} {A : Around} {h h' : Heap} {ρ ρ' : Rg} {s : Shared}
theorem Pre.ok0 (P : Pre C H env m σ A h ρ) : Ok0 C H σ A h ρ := ⟨P.ok, P.am, P.st⟩
theorem mono {α : Type} {M : Model} {t : Sem α} {Q Q' : α → Shared → Prop} (h : wpAny M A t Q (fun _ _ => False) s) (q : ∀ a s', Q a s' → Q' a s') : wpAny M A t Q' (fun _ _ => False) s := wpAny_mono h q fun _ _ x => x
theorem monoE {α : Type} {M : Model} {t : Sem α} {Q Q' : α → Shared → Prop} {E : Value → Shared → Prop} (h : wpAny M A t Q (fun _ _ => False) s) (q : ∀ a s', Q a s' → Q' a s') : wpAny M A t Q' E s := wpAny_mono h q fun _ _ x => x.elim
theorem Got.here {Q : V → List Cell → Prop} {v : Value} {d : V} {tk : Nat} (S : St C s.heap ρ σ) (R : Rep C s.heap ρ v d) (q : Q d σ) : Got C s ρ Q v (up s s.heap tk) :=
  ⟨d, s.heap, tk, ρ, σ, rfl, .refl, S, R, q⟩
theorem Got.heap {Q : V → List Cell → Prop} {v : Value} {d : V} {tk : Nat} (S : St C s.heap ρ σ) (k : Full s.heap h') (R : Rep C h' ρ v d) (q : Q d σ) : Got C s ρ Q v (up s h' tk) :=
  ⟨d, h', tk, ρ, σ, rfl, k.grow, S.full k, R, q⟩
theorem WL.mono {e : Expr} {Q Q' : V → List Cell → Prop} (x : WL C H env e m σ Q) (q : ∀ d σ', Q d σ' → Q' d σ') : WL C H env e m σ Q' := fun A s ρ P =>
  Mine.mono (x A s ρ P) fun v s' ⟨d, h', tk, ρ', σ', e, g, S, R, z⟩ => ⟨d, h', tk, ρ', σ', e, g, S, R, q _ _ z⟩
theorem WLs.mono {e : List Expr} {Q Q' : List V → List Cell → Prop} (x : WLs C H env e m σ Q) (q : ∀ d σ', Q d σ' → Q' d σ') : WLs C H env e m σ Q' := fun A s ρ p P =>
  Mine.mono (x A s ρ p P) fun v s' ⟨d, h', tk, ρ', σ', e, g, S, R, z⟩ => ⟨d, h', tk, ρ', σ', e, g, S, R, q _ _ z⟩
theorem WB.mono {e : Expr} {Q Q' : Bool → List Cell → Prop} (x : WB C H env e m σ Q) (q : ∀ d σ', Q d σ' → Q' d σ') : WB C H env e m σ Q' := fun A s ρ P =>
  Mine.mono (x A s ρ P) fun v s' ⟨h', tk, ρ', σ', e, g, S, z⟩ => ⟨h', tk, ρ', σ', e, g, S, q _ _ z⟩
theorem WX.mono {b : List Stmt} {Q Q' : Fl → M → List Cell → Prop} (x : WX C H env b m σ Q) (q : ∀ f m' σ', Q f m' σ' → Q' f m' σ') : WX C H env b m σ Q' := fun A s ρ P =>
  Mine.mono (x A s ρ P) fun v s' ⟨fl, m', h', tk, ρ', σ', e, g, S, F, R, z⟩ => ⟨fl, m', h', tk, ρ', σ', e, g, S, F, R, q _ _ _ z⟩
theorem W1.mono {b : Stmt} {Q Q' : Fl → M → List Cell → Prop} (x : W1 C H env b m σ Q) (q : ∀ f m' σ', Q f m' σ' → Q' f m' σ') : W1 C H env b m σ Q' := fun A s ρ P =>
  Mine.mono (x A s ρ P) fun v s' ⟨fl, m', h', tk, ρ', σ', e, g, S, F, R, z⟩ => ⟨fl, m', h', tk, ρ', σ', e, g, S, F, R, q _ _ _ z⟩
theorem Got.andThen {Q : V → List Cell → Prop} {v : Value} {s' : Shared} {α : Type} {M : Model} {t : Sem α} {E : Value → Shared → Prop} {R : α → Shared → Prop} (x : Got C s ρ Q v s')
    (k : ∀ d h' tk ρ' σ', Grow s.heap ρ h' ρ' → St C h' ρ' σ' → Rep C h' ρ' v d → Q d σ' → wpAny M A t R E (up s h' tk)) : wpAny M A t R E s' := by
  obtain ⟨d, h', tk, ρ', σ', rfl, g, S, r, z⟩ := x
  exact k d h' tk ρ' σ' g S r z
theorem Got.elim {Q : V → List Cell → Prop} {v : Value} {s' : Shared} {P : Shared → Prop} (x : Got C s ρ Q v s') (k : ∀ d h' tk ρ' σ', Grow s.heap ρ h' ρ' → St C h' ρ' σ' → Rep C h' ρ' v d → Q d σ' → P (up s h' tk)) : P s' := by
  obtain ⟨d, h', tk, ρ', σ', rfl, g, S, r, z⟩ := x
  exact k d h' tk ρ' σ' g S r z
theorem GotL.elim {Q : List V → List Cell → Prop} {v : List Value} {s' : Shared} {P : Shared → Prop} (x : GotL C s ρ Q v s') (k : ∀ d h' tk ρ' σ', Grow s.heap ρ h' ρ' → St C h' ρ' σ' → RepL C h' ρ' v d → Q d σ' → P (up s h' tk)) : P s' := by
  obtain ⟨d, h', tk, ρ', σ', rfl, g, S, r, z⟩ := x
  exact k d h' tk ρ' σ' g S r z
theorem GotB.elim {Q : Bool → List Cell → Prop} {v : Bool} {s' : Shared} {P : Shared → Prop} (x : GotB C s ρ Q v s') (k : ∀ h' tk ρ' σ', Grow s.heap ρ h' ρ' → St C h' ρ' σ' → Q v σ' → P (up s h' tk)) : P s' := by
  obtain ⟨h', tk, ρ', σ', rfl, g, S, z⟩ := x
  exact k h' tk ρ' σ' g S z
theorem Ran.elim {Q : Fl → M → List Cell → Prop} {f : Flow} {s' : Shared} {P : Shared → Prop} (x : Ran C env s ρ Q f s') (k : ∀ fl m' h' tk ρ' σ', GrowF env s.heap ρ h' ρ' → St C h' ρ' σ' → Fm C env m' h' ρ' → FlRep C h' ρ' f fl → Q fl m' σ' → P (up s h' tk)) : P s' := by
  obtain ⟨fl, m', h', tk, ρ', σ', rfl, g, S, F, r, z⟩ := x
  exact k fl m' h' tk ρ' σ' g S F r z
theorem wl_var {x : Str} {pos : Pos} {d : V} {Q : V → List Cell → Prop} (e : m.lookup x = some d) (q : Q d σ) : WL C H env (.Name x pos) m σ Q := fun A s ρ P => by
  have hd := P.fm.db x d e
  obtain ⟨ml, hn, hl⟩ := P.fm.ns
  by_cases k : env.kindOf x = some .local
  · obtain ⟨v, ev, r⟩ := hl x d e k
    exact wpAny_Name (wpAny_loadName_local P.fm.fn k hn ev (Got.here (tk := s.toks) P.st r q)) hd
  · obtain ⟨k', nc, c, v, ec, ic, r⟩ := P.fm.cl x d e k
    rcases k' with k' | k'
    · exact wpAny_Name (wpAny_loadName_cell P.fm.fn k' ec ic (Got.here (tk := s.toks) P.st r q)) hd
    · exact wpAny_Name (wpAny_loadName_free P.fm.fn k' ec ic (Got.here (tk := s.toks) P.st r q) nc) hd
theorem wl_int {i : Int} {k : Nat} {pos : Pos} {Q : V → List Cell → Prop} (q : Q (.int i) σ) : WL C H env (.Constant (.int i) k pos) m σ Q := fun A s ρ P =>
  wpAny_Constant_int (Got.here P.st (.int _ _) q)
theorem wl_str {i : Str} {k : Nat} {pos : Pos} {Q : V → List Cell → Prop} (ok : PyData.strOk i = true) (q : Q (.str i) σ) : WL C H env (.Constant (.str i) k pos) m σ Q := fun A s ρ P =>
  wpAny_Constant_str (Got.here P.st (.str _ _ ok) q)
theorem wl_none {k : Nat} {pos : Pos} {Q : V → List Cell → Prop} (q : Q .none σ) : WL C H env (.Constant .none k pos) m σ Q := fun A s ρ P =>
  wpAny_Constant_none (Got.here (tk := s.toks) P.st .none q)
theorem wl_bool {b : Bool} {k : Nat} {pos : Pos} {Q : V → List Cell → Prop} (q : Q (.bool b) σ) : WL C H env (.Constant (.bool b) k pos) m σ Q := fun A s ρ P =>
  wpAny_Constant_bool (Got.here (tk := s.toks) P.st (.bool b) q)
theorem wl_bin {l r : Expr} {op : Operator} {pos : Pos} {Q : V → List Cell → Prop} (h : WL C H env l m σ fun a σ₁ => WL C H env r m σ₁ fun b σ₂ => Bop C H op a b σ₂ Q) : WL C H env (.BinOp l op r pos) m σ Q := fun A s ρ P => by
  refine wpAny_BinOp (mono (h A s ρ P) fun va s₁ g₁ => g₁.andThen fun a h₁ t₁ ρ₁ σ₁ g S R z => ?_)
  refine mono (z A _ ρ₁ (P.grow g S)) fun vb s₂ g₂ => g₂.andThen fun b h₂ t₂ ρ₂ σ₂ g' S' R' z' => ?_
  exact mono (z' A _ ρ₂ va vb ⟨P.ok, P.am, S'⟩ (R.grow g') R') fun v s' x => (x.trans g').trans g
theorem wl_cmp {l r : Expr} {op : CmpOp} {pos : Pos} {Q : V → List Cell → Prop} (h : WL C H env l m σ fun a σ₁ => WL C H env r m σ₁ fun b σ₂ => Cop C H op a b σ₂ fun b => Q (.bool b) σ₂) (hm : behindInMarks op r = false) :
    WL C H env (.Compare l [op] [r] pos) m σ Q := fun A s ρ P => by
  refine wpAny_Compare1 (mono (h A s ρ P) fun va s₁ g₁ => g₁.andThen fun a h₁ t₁ ρ₁ σ₁ g S R z => ?_) hm
  refine mono (z A _ ρ₁ (P.grow g S)) fun vb s₂ g₂ => g₂.andThen fun b h₂ t₂ ρ₂ σ₂ g' S' R' z' => ?_
  refine mono (z' A _ ρ₂ va vb ⟨P.ok, P.am, S'⟩ (R.grow g') R') fun v s' yy => ?_
  obtain ⟨b, tk, e1, e2, q⟩ := yy
  subst e1 e2
  exact (Got.trans (s := (up s h₁ t₁)) g' (Got.here S' (.bool b) q)).trans g
theorem wb_cmp {l r : Expr} {op : CmpOp} {pos : Pos} {Q : Bool → List Cell → Prop} (h : WL C H env l m σ fun a σ₁ => WL C H env r m σ₁ fun b σ₂ => Cop C H op a b σ₂ fun b => Q b σ₂) (hm : behindInMarks op r = false) :
    WB C H env (.Compare l [op] [r] pos) m σ Q := fun A s ρ P => by
  refine wpAny_isTrue_Compare1 (mono (h A s ρ P) fun va s₁ g₁ => g₁.andThen fun a h₁ t₁ ρ₁ σ₁ g S R z => ?_) hm
  refine mono (z A _ ρ₁ (P.grow g S)) fun vb s₂ g₂ => g₂.andThen fun b h₂ t₂ ρ₂ σ₂ g' S' R' z' => ?_
  refine mono (z' A _ ρ₂ va vb ⟨P.ok, P.am, S'⟩ (R.grow g') R') fun v s' yy => ?_
  obtain ⟨b, tk, e1, e2, q⟩ := yy
  subst e1 e2
  exact wpAny_truthy_bool ⟨h₂, tk, ρ₂, σ₂, rfl, g.trans g', S', q⟩
theorem wb_val {e : Expr} {Q : Bool → List Cell → Prop} (h : WL C H env e m σ fun d σ₁ => ∃ b, d = .bool b ∧ Q b σ₁) (he : ∀ whole, isTrue e env whole = (do let v ← whole; standAt e.pos; holding [v] (truthy v))) : WB C H env e m σ Q := fun A s ρ P => by
  refine wpAny_isTrue_value (mono (h A s ρ P) fun v s₁ g₁ => g₁.andThen fun d h₁ t₁ ρ₁ σ₁ g S R z => ?_) (he _)
  obtain ⟨b, rfl, q⟩ := z
  obtain rfl := R.sees
  exact wpAny_truthy_bool ⟨h₁, t₁, ρ₁, σ₁, rfl, g, S, q⟩
theorem wb_not {x : Expr} {pos : Pos} {Q : Bool → List Cell → Prop} (h : WB C H env x m σ fun b σ₁ => Q (!b) σ₁) : WB C H env (.UnaryOp .Not x pos) m σ Q := fun A s ρ P => by
  exact wpAny_isTrue_Not (mono (h A s ρ P) fun b s₁ g₁ => by cases g₁; constructor <;> assumption)
theorem wl_not {x : Expr} {pos : Pos} {Q : V → List Cell → Prop} (h : WL C H env x m σ fun d σ₁ => ∃ b, d = .bool b ∧ Q (.bool !b) σ₁) : WL C H env (.UnaryOp .Not x pos) m σ Q := fun A s ρ P => by
  refine wpAny_UnaryOp (mono (h A s ρ P) fun v s₁ g₁ => g₁.andThen fun d h₁ t₁ ρ₁ σ₁ g S R z => ?_)
  obtain ⟨b, rfl, q⟩ := z
  obtain rfl := R.sees
  exact not_value (wpAny_truthy_bool ⟨_, h₁, t₁, ρ₁, σ₁, rfl, g, S, .bool _, q⟩)
def WBs (C : Cx) (H : Nat) (env : Env) (op : BoolOp) (es : List Expr) (m : M) (σ : List Cell) (Q : Bool → List Cell → Prop) : Prop :=
  ∀ A s ρ, Pre C H env m σ A s.heap ρ → wpAny (C.M) A (allTrue op es env) (GotB C s ρ Q) (fun _ _ => False) s
theorem wb_bool {op : BoolOp} {es : List Expr} {pos : Pos} {Q : Bool → List Cell → Prop} (h : WBs C H env op es m σ Q) : WB C H env (.BoolOp op es pos) m σ Q := fun A s ρ P =>
  wpAny_isTrue_BoolOp (h A s ρ P)
theorem GotB.here {Q : Bool → List Cell → Prop} {b : Bool} (S : St C s.heap ρ σ) (q : Q b σ) : GotB C s ρ Q b s := ⟨s.heap, s.toks, ρ, σ, rfl, .refl, S, q⟩
theorem wbs_and_nil {Q : Bool → List Cell → Prop} (q : Q true σ) : WBs C H env .And [] m σ Q := fun A s ρ P => wpAny_allTrue_And_nil (.here P.st q)
theorem wbs_or_nil {Q : Bool → List Cell → Prop} (q : Q false σ) : WBs C H env .Or [] m σ Q := fun A s ρ P => wpAny_allTrue_Or_nil (.here P.st q)
theorem wbs_and {x : Expr} {r : List Expr} {Q : Bool → List Cell → Prop} (h : WB C H env x m σ fun b σ₁ => if b = true then WBs C H env .And r m σ₁ Q else Q false σ₁) : WBs C H env .And (x :: r) m σ Q := fun A s ρ P => by
  refine wpAny_allTrue_And_cons (mono (h A s ρ P) fun b s₁ yy => yy.elim (P := fun s => if b = true then _ else _) fun h₁ t₁ ρ₁ σ₁ g S z => ?_)
  cases b with
  | false => exact ⟨h₁, t₁, ρ₁, σ₁, rfl, g, S, z⟩
  | true => exact mono (z A _ ρ₁ (P.grow g S)) fun b s₂ x => x.trans g
theorem wbs_or {x : Expr} {r : List Expr} {Q : Bool → List Cell → Prop} (h : WB C H env x m σ fun b σ₁ => if b = true then Q true σ₁ else WBs C H env .Or r m σ₁ Q) : WBs C H env .Or (x :: r) m σ Q := fun A s ρ P => by
  refine wpAny_allTrue_Or_cons (mono (h A s ρ P) fun b s₁ yy => yy.elim (P := fun s => if b = true then _ else _) fun h₁ t₁ ρ₁ σ₁ g S z => ?_)
  cases b with
  | true => exact ⟨h₁, t₁, ρ₁, σ₁, rfl, g, S, z⟩
  | false => exact mono (z A _ ρ₁ (P.grow g S)) fun b s₂ x => x.trans g
def WLb (C : Cx) (H : Nat) (env : Env) (op : BoolOp) (es : List Expr) (m : M) (σ : List Cell) (Q : Bool → List Cell → Prop) : Prop :=
  ∀ A s ρ pos, Pre C H env m σ A s.heap ρ → wpAny (C.M) A (boolOp pos op (evalEach es env)) (Got C s ρ fun d σ => ∃ b, d = .bool b ∧ Q b σ) (fun _ _ => False) s
theorem wl_boolop {op : BoolOp} {es : List Expr} {pos : Pos} {Q : V → List Cell → Prop} (h : WLb C H env op es m σ fun b σ => Q (.bool b) σ) : WL C H env (.BoolOp op es pos) m σ Q := fun A s ρ P => by
  show wpAny _ A (boolOp pos op (evalEach es env)) _ _ s
  refine mono (h A s ρ pos P) fun v s' ⟨d, h', tk, ρ', σ', e, g, S, R, b, e2, z⟩ => ⟨d, h', tk, ρ', σ', e, g, S, R, by rw [e2]; exact z⟩
theorem wlb_one {op : BoolOp} {e : Expr} {Q : Bool → List Cell → Prop} (h : WL C H env e m σ fun d σ => ∃ b, d = .bool b ∧ Q b σ) : WLb C H env op [e] m σ Q := fun A s ρ pos P => h A s ρ P
set_option backward.match.sparseCases true in
theorem wlb_and {e f : Expr} {r : List Expr} {Q : Bool → List Cell → Prop} (h : WL C H env e m σ fun d σ₁ => ∃ b, d = .bool b ∧ if b = true then WLb C H env .And (f :: r) m σ₁ Q else Q false σ₁) : WLb C H env .And (e :: f :: r) m σ Q := fun A s ρ pos P => by
  show wpAny _ A (do
    let v ← eval e env
    standAt pos
    let t ← holding [v] (truthy v)
    match BoolOp.And, t with
    | .And, false | .Or, true => pure v
    | _, _ => boolOp pos .And (evalEach (f :: r) env)) _ _ s
  refine wpAny_bind (mono (h A s ρ P) fun v s₁ g₁ => g₁.andThen fun d h₁ t₁ ρ₁ σ₁ g S R z => ?_)
  obtain ⟨b, rfl, z⟩ := z
  obtain rfl := R.sees
  refine wpAny_bind (wpAny_standAt (wpAny_bind (wpAny_holding (wpAny_truthy_bool ?_))))
  cases b with
  | false => exact wpAny_pure ⟨_, h₁, t₁, ρ₁, σ₁, rfl, g, S, .bool _, _, rfl, z⟩
  | true => exact mono (z A _ ρ₁ pos (P.grow g S)) fun b s₂ x => x.trans g
set_option backward.match.sparseCases true in
theorem wlb_or {e f : Expr} {r : List Expr} {Q : Bool → List Cell → Prop} (h : WL C H env e m σ fun d σ₁ => ∃ b, d = .bool b ∧ if b = true then Q true σ₁ else WLb C H env .Or (f :: r) m σ₁ Q) : WLb C H env .Or (e :: f :: r) m σ Q := fun A s ρ pos P => by
  show wpAny _ A (do
    let v ← eval e env
    standAt pos
    let t ← holding [v] (truthy v)
    match BoolOp.Or, t with
    | .And, false | .Or, true => pure v
    | _, _ => boolOp pos .Or (evalEach (f :: r) env)) _ _ s
  refine wpAny_bind (mono (h A s ρ P) fun v s₁ g₁ => g₁.andThen fun d h₁ t₁ ρ₁ σ₁ g S R z => ?_)
  obtain ⟨b, rfl, z⟩ := z
  obtain rfl := R.sees
  refine wpAny_bind (wpAny_standAt (wpAny_bind (wpAny_holding (wpAny_truthy_bool ?_))))
  cases b with
  | true => exact wpAny_pure ⟨_, h₁, t₁, ρ₁, σ₁, rfl, g, S, .bool _, _, rfl, z⟩
  | false => exact mono (z A _ ρ₁ pos (P.grow g S)) fun b s₂ x => x.trans g
theorem wl_ifexp {t b o : Expr} {pos : Pos} {Q : V → List Cell → Prop} (h : WB C H env t m σ fun c σ₁ => if c = true then WL C H env b m σ₁ Q else WL C H env o m σ₁ Q) : WL C H env (.IfExp t b o pos) m σ Q := fun A s ρ P => by
  refine wpAny_IfExp (mono (h A s ρ P) fun c s₁ yy => yy.elim (P := fun s => if c = true then _ else _) fun h₁ t₁ ρ₁ σ₁ g S z => ?_)
  cases c with
  | true => exact mono (z A _ ρ₁ (P.grow g S)) fun b s₂ x => x.trans g
  | false => exact mono (z A _ ρ₁ (P.grow g S)) fun b s₂ x => x.trans g
theorem wls_nil {Q : List V → List Cell → Prop} (q : Q [] σ) : WLs C H env [] m σ Q := fun A s ρ pos P => wpAny_items_nil ⟨[], s.heap, s.toks, ρ, σ, rfl, .refl, P.st, .nil, q⟩
theorem wls_cons {e : Expr} {r : List Expr} {Q : List V → List Cell → Prop} (h : WL C H env e m σ fun d σ₁ => WLs C H env r m σ₁ fun ds σ₂ => Q (d :: ds) σ₂)
    (he : starEach (e :: r) env = (false, eval e env) :: starEach r env) : WLs C H env (e :: r) m σ Q := fun A s ρ pos P => by
  refine wpAny_items_cons (mono (h A s ρ P) fun v s₁ g₁ => g₁.andThen fun d h₁ t₁ ρ₁ σ₁ g S R z => ?_) he
  refine mono (z A _ ρ₁ pos (P.grow g S)) fun vs s₂ ⟨ds, h₂, t₂, ρ₂, σ₂, e, g', S', R', z'⟩ => ⟨d :: ds, h₂, t₂, ρ₂, σ₂, by rw [e], g.trans g', S', .cons (R.grow g') R', z'⟩
theorem wl_tuple {es : List Expr} {k : Nat} {pos : Pos} {Q : V → List Cell → Prop} (h : WLs C H env es m σ fun ds σ₁ => ds.length ≤ 1000 ∧ Q (.tup ds) σ₁) : WL C H env (.Tuple es k pos) m σ Q := fun A s ρ P => by
  refine wpAny_Tuple (mono (h A s ρ pos P) fun vs s₁ yy => ?_)
  obtain ⟨ds, h₁, t₁, ρ₁, σ₁, rfl, g, S, R, zz⟩ := yy
  obtain ⟨hl, z⟩ := zz
  refine ⟨by rw [R.length, sizeLine_eq]; omega, Got.trans (tk := t₁) g ?_⟩
  exact Got.heap S (Full.push _) (.tup S.fresh_size.1 S.fresh_size.2 (Heap.get?_push_size _ rfl) (R.grow (Full.push _).grow)) z
theorem wl_list {es : List Expr} {pos : Pos} {Q : V → List Cell → Prop} (h : WLs C H env es m σ fun ds σ₁ => ds.length ≤ 1000 ∧ Q (.lst ds) σ₁) : WL C H env (.List es pos) m σ Q := fun A s ρ P => by
  refine wpAny_List (mono (h A s ρ pos P) fun vs s₁ yy => ?_)
  obtain ⟨ds, h₁, t₁, ρ₁, σ₁, rfl, g, S, R, zz⟩ := yy
  obtain ⟨hl, z⟩ := zz
  refine ⟨by rw [R.length, sizeLine_eq]; omega, Got.trans (tk := t₁) g ?_⟩
  exact Got.heap S (Full.push _) (.lst S.fresh_size.1 S.fresh_size.2 (Heap.get?_push_size _ rfl) (R.grow (Full.push _).grow)) z
theorem sys_size (ok : C.Ok) (S : St C h ρ σ) : (h.objs.size == sysModules) = false := by
  have l := (ok.g.keeps S.base).lt
  have : mainGlobals = 3 := rfl
  rw [this] at l
  have e : sysModules = 1 := rfl
  rw [e, beq_eq_false_iff_ne]
  exact Nat.ne_of_gt (Nat.lt_trans (by decide) l)
theorem alloc_list {vs : List Value} {ds : List V} (ok : C.Ok) (S : St C h ρ σ) (R : RepL C h ρ vs ds) {n : Nat} : St C (h.push (lstO vs n)) (ρ.snoc h.objs.size) (σ ++ [.list ds]) ∧ Grow h ρ (h.push (lstO vs n)) (ρ.snoc h.objs.size) := by
  have f : h.get? h.objs.size = none := none_of_size (Nat.le_refl _)
  have k : Full h (h.push (lstO vs n)) := Full.push _
  have g0 : (h.push (lstO vs n)).get? h.objs.size = some (lstO vs n) := Heap.get?_push_size _ rfl
  exact S.alloc k f (sys_size ok S) g0 ⟨vs, n, g0, R.grow (k.grow_snoc f)⟩
theorem wl_listM {es : List Expr} {pos : Pos} {Q : V → List Cell → Prop} (h : WLs C H env es m σ fun ds σ₁ => ds.length ≤ 1000 ∧ Q (.loc σ₁.length) (σ₁ ++ [.list ds])) : WL C H env (.List es pos) m σ Q := fun A s ρ P => by
  refine wpAny_List (mono (h A s ρ pos P) fun vs s₁ yy => ?_)
  obtain ⟨ds, h₁, t₁, ρ₁, σ₁, rfl, g, S, R, zz⟩ := yy
  obtain ⟨hl, z⟩ := zz
  refine ⟨by rw [R.length, sizeLine_eq]; omega, Got.trans (tk := t₁) g ?_⟩
  obtain ⟨S', g'⟩ := alloc_list (n := 0) P.ok S R
  exact ⟨_, _, _, _, _, rfl, g', S', .loc (by rw [← S.len]; simp), z⟩
end

section
variable {C : Cx} {H : Nat} {env : Env} {m m' : M} {σ σ' : List Cell} {A : Around} {h h' : Heap} {ρ ρ' : Rg} {s : Shared}
theorem Ran.here {Q : Fl → M → List Cell → Prop} (P : Pre C H env m σ A s.heap ρ) (q : Q .next m σ) : Ran C env s ρ Q .next s :=
  ⟨.next, m, s.heap, s.toks, ρ, σ, rfl, .refl, P.st, P.fm, trivial, q⟩
theorem Ran.behind {Q : Fl → M → List Cell → Prop} {h₁ : Heap} {tk : Nat} {ρ₁ : Rg} {f : Flow} {s' : Shared} (g : Grow s.heap ρ h₁ ρ₁) (x : Ran C env (up s h₁ tk) ρ₁ Q f s') : Ran C env s ρ Q f s' := by
  obtain ⟨fl, m', h', tk', ρ', σ', e, g', S, F, R, z⟩ := x
  exact ⟨fl, m', h', tk', ρ', σ', e, g.c.trans g' (F.noOwn S), S, F, R, z⟩
theorem Ran.trans {Q : Fl → M → List Cell → Prop} {h₁ : Heap} {tk : Nat} {ρ₁ : Rg} {f : Flow} {s' : Shared} (g : GrowF env s.heap ρ h₁ ρ₁) (x : Ran C env (up s h₁ tk) ρ₁ Q f s') : Ran C env s ρ Q f s' := by
  obtain ⟨fl, m', h', tk', ρ', σ', e, g', S, F, R, z⟩ := x
  exact ⟨fl, m', h', tk', ρ', σ', e, g.trans g' (F.noOwn S), S, F, R, z⟩
theorem wx_nil {Q : Fl → M → List Cell → Prop} (q : Q .next m σ) : WX C H env [] m σ Q := fun A s ρ P => wpAny_execs_nil (Ran.here P q)
theorem wx_cons {st : Stmt} {r : List Stmt} {Q : Fl → M → List Cell → Prop} (h : W1 C H env st m σ fun fl m₁ σ₁ => match fl with | .next => WX C H env r m₁ σ₁ Q | fl => Q fl m₁ σ₁) : WX C H env (st :: r) m σ Q := fun A s ρ P => by
  refine wpAny_execs_cons (mono (h A s ρ P) fun f s₁ yy => ?_)
  obtain ⟨fl, m₁, h₁, t₁, ρ₁, σ₁, rfl, g, S, F, R, z⟩ := yy
  cases f <;> cases fl <;> (try exact R.elim)
  · exact mono (z A _ ρ₁ ⟨P.ok, P.am, S, F⟩) fun f s' x => x.trans g
  · exact ⟨_, m₁, h₁, t₁, ρ₁, σ₁, rfl, g, S, F, R, z⟩
  · exact ⟨_, m₁, h₁, t₁, ρ₁, σ₁, rfl, g, S, F, R, z⟩
  · exact ⟨_, m₁, h₁, t₁, ρ₁, σ₁, rfl, g, S, F, R, z⟩
theorem w1_if {t : Expr} {b o : List Stmt} {pos : Pos} {Q : Fl → M → List Cell → Prop} (h : WB C H env t m σ fun c σ₁ => if c = true then WX C H env b m σ₁ Q else WX C H env o m σ₁ Q) : W1 C H env (.If t b o pos) m σ Q := fun A s ρ P => by
  refine wpAny_If (mono (h A s ρ P) fun c s₁ yy => yy.elim (P := fun s => if c = true then _ else _) fun h₁ t₁ ρ₁ σ₁ g S z => ?_)
  cases c with
  | true => exact mono (z A _ ρ₁ (P.grow g S)) fun f s' x => x.behind g
  | false => exact mono (z A _ ρ₁ (P.grow g S)) fun f s' x => x.behind g
theorem w1_ret {e : Expr} {pos : Pos} {Q : Fl → M → List Cell → Prop} (h : WL C H env e m σ fun d σ₁ => Q (.ret d) m σ₁) : W1 C H env (.Return (some e) pos) m σ Q := fun A s ρ P => by
  refine wpAny_Return_some (mono (h A s ρ P) fun v s₁ yy => ?_)
  obtain ⟨d, h₁, t₁, ρ₁, σ₁, e, g, S, R, z⟩ := yy
  exact ⟨.ret d, m, h₁, t₁, ρ₁, σ₁, e, g.c, S, P.fm.grow P.st g, R, z⟩
theorem w1_expr {e : Expr} {pos : Pos} {Q : Fl → M → List Cell → Prop} (h : WL C H env e m σ fun d σ₁ => d = .none ∧ Q .next m σ₁) (hs : swapsWith e none pos.line env = pure false) : W1 C H env (.Expr e pos) m σ Q := fun A s ρ P => by
  have hi : interactive env = false := by unfold interactive; rw [P.fm.fn]; rfl
  refine wpAny_Expr (mono (h A s ρ P) fun v s₁ yy => ?_) hi hs
  obtain ⟨d, h₁, t₁, ρ₁, σ₁, e, g, S, R, hd, z⟩ := yy
  subst hd
  obtain rfl := R.sees
  exact ⟨.next, m, h₁, t₁, ρ₁, σ₁, e, g.c, S, P.fm.grow P.st g, trivial, z⟩
abbrev OwnW (env : Env) (W : List Addr) : Prop := ∀ b ∈ W, b ∈ envW env
def Own (env : Env) (W : List Addr) (x : Str) : Prop := (env.kindOf x = some .local ∧ env.locals ∈ W ∨ ∃ c, env.kindOf x = some .cell ∧ env.cells.lookup x = some c ∧ (x == ("__classdict__" : Str)) = false ∧ c ∈ W) ∧ (x == ("__debug__" : Str)) = false
inductive LRan (C : Cx) (env : Env) (W : List Addr) (s : Shared) (ρ : Rg) (Q : M → Prop) (s' : Shared) : Prop
  | mk (m' : M) (h' : Heap) (tk : Nat) (e : s' = up s h' tk) (k : ∀ b o, b ∉ W → s.heap.get? b = some o → h'.get? b = some o) (F : Fm C env m' h' ρ) (q : Q m')
theorem put_cases {x y : Str} {d e : V} (ey : ((x, d) :: m).lookup y = some e) : (x = y ∧ d = e) ∨ (x ≠ y ∧ m.lookup y = some e) := by
  rw [lookup_if] at ey
  by_cases q : x = y
  · rw [if_pos q] at ey; exact .inl ⟨q, Option.some.inj ey⟩
  · rw [if_neg q] at ey; exact .inr ⟨q, ey⟩
theorem Fm.apartL (F : Fm C env m h ρ) {p : Str × Addr} (hp : p ∈ env.cells) : p.2 ≠ env.locals := fun e => by
  obtain ⟨u, o, ho, hd⟩ := F.cs p hp
  obtain ⟨ml, ⟨o', es, ep, ho', hd', _⟩, _⟩ := F.ns
  have ho : h.get? p.2 = some o := ho
  rw [e, ho'] at ho
  have z : Data.dict es ep = Data.cell u := hd'.symm.trans ((congrArg Obj.data (Option.some.inj ho)).trans hd)
  exact nomatch z
theorem sto_own {W : List Addr} {x : Str} {d : V} {v : Value} {Q : M → Prop} (hk : Own env W x) (q : Q ((x, d) :: m)) (P : Pre C H env m σ A s.heap ρ) (R : Rep C s.heap ρ v d) :
    wpAny (C.M) A (storeName env x v) (fun _ s' => LRan C env W s ρ Q s') (fun _ _ => False) s := by
  obtain ⟨hk, hd⟩ := hk
  have F := P.fm
  obtain ⟨ml, hn, hl⟩ := F.ns
  rcases hk with ⟨k, hW⟩ | ⟨c, k, hc, hcd, hW⟩
  · refine wpAny_storeName_local k hn (fun h' hn' hs => ?_) (by rw [F.fn]; rfl)
    have ks : ∀ b o, b ≠ env.locals → s.heap.get? b = some o → h'.get? b = some o := fun b o n e => (hs.2 b n).trans e
    have cr : Carry s.heap ρ h' ρ := frames_carry (wr := [env.locals]) (fun b m => List.mem_singleton.mp m ▸ F.offL) fun b o n => ks b o fun z => n (List.mem_singleton.mpr z)
    have kc : ∀ p ∈ env.cells, ∀ u, s.heap.IsCell p.2 u → h'.IsCell p.2 u := fun p hp u ⟨o, ho, hd⟩ => ⟨o, ks _ o (F.apartL hp) ho, hd⟩
    refine ⟨_, h', s.toks + 1, rfl, fun b o n => ks b o fun z => n (z ▸ hW), ⟨F.fn, F.gl, F.bu, ⟨_, hn', fun y e ey ky => ?_⟩, fun y e ey ky => ?_, fun p hp => (F.cs p hp).imp (kc p hp), F.ap, F.offL, F.offC, fun y e ey => ?_⟩, q⟩
    · rcases put_cases ey with ⟨rfl, rfl⟩ | ⟨n, ey⟩
      · exact ⟨v, if_pos rfl, R.carry cr⟩
      · obtain ⟨u, e1, r⟩ := hl y e ey ky
        exact ⟨u, (if_neg n.symm).trans e1, r.carry cr⟩
    · rcases put_cases ey with ⟨rfl, rfl⟩ | ⟨n, ey⟩
      · exact absurd k ky
      · obtain ⟨a, b, c, u, e1, i, r⟩ := F.cl y e ey ky
        exact ⟨a, b, c, u, e1, kc _ (mem_of_lookup e1) _ i, r.carry cr⟩
    · rcases put_cases ey with ⟨rfl, rfl⟩ | ⟨n, ey⟩
      · exact hd
      · exact F.db y e ey
  · have mc := mem_of_lookup hc
    obtain ⟨v₀, ic⟩ := F.cs _ mc
    refine wpAny_storeName_cell F.fn k hc ic fun h' ic' hs => ?_
    have ks : ∀ b o, b ≠ c → s.heap.get? b = some o → h'.get? b = some o := fun b o n e => (hs.2 b n).trans e
    have cr : Carry s.heap ρ h' ρ := frames_carry (wr := [c]) (fun b m => List.mem_singleton.mp m ▸ F.offC _ mc) fun b o n => ks b o fun z => n (List.mem_singleton.mpr z)
    refine ⟨_, h', s.toks, rfl, fun b o n => ks b o fun z => n (z ▸ hW), ⟨F.fn, F.gl, F.bu, ⟨ml, hn.sameBut hs (F.apartL mc).symm, fun y e ey ky => ?_⟩, fun y e ey ky => ?_, fun p hp => ?_, F.ap, F.offL, F.offC, fun y e ey => ?_⟩, q⟩
    · rcases put_cases ey with ⟨rfl, rfl⟩ | ⟨n, ey⟩
      · exact nomatch k.symm.trans ky
      · obtain ⟨u, e1, r⟩ := hl y e ey ky
        exact ⟨u, e1, r.carry cr⟩
    · rcases put_cases ey with ⟨rfl, rfl⟩ | ⟨n, ey⟩
      · exact ⟨.inl k, hcd, c, v, hc, ic', R.carry cr⟩
      · obtain ⟨a, b, c', u, e1, i, r⟩ := F.cl y e ey ky
        exact ⟨a, b, c', u, e1, i.sameBut hs fun z => n (name_of_addr F.ap (mem_of_lookup e1) (z ▸ mc)).symm, r.carry cr⟩
    · obtain ⟨u, i⟩ := F.cs p hp
      exact (Classical.em (p.2 = c)).elim (fun z => ⟨_, z ▸ ic'⟩) fun z => ⟨u, i.sameBut hs z⟩
    · rcases put_cases ey with ⟨rfl, rfl⟩ | ⟨n, ey⟩
      · exact hd
      · exact F.db y e ey
theorem St.locals {W : List Addr} (hW : OwnW env W) (S : St C h ρ σ) (F : Fm C env m' h' ρ) (k : ∀ b o, b ∉ W → h.get? b = some o → h'.get? b = some o) : St C h' ρ σ :=
  S.frames (fun b q => F.off b (hW b q)) k fun b q => F.live b (hW b q)
theorem locals_carry {W : List Addr} (hW : OwnW env W) (F : Fm C env m' h' ρ) (k : ∀ b o, b ∉ W → h.get? b = some o → h'.get? b = some o) : Carry h ρ h' ρ :=
  frames_carry (fun b q => F.off b (hW b q)) k
theorem LRan.ran {W : List Addr} (hW : OwnW env W) (S : St C s.heap ρ σ) {Q : M → Prop} {s' : Shared} (x : LRan C env W s ρ Q s') : Ran C env s ρ (fun fl m σ' => fl = .next ∧ σ' = σ ∧ Q m) .next s' := by
  obtain ⟨m', h', tk, e, k, F, q⟩ := x
  exact ⟨.next, m', h', tk, ρ, σ, e, ⟨⟨[], (List.append_nil _).symm⟩, rfl, fun _ m n => absurd m n, fun b o _ n => k b o fun z => n (hW b z)⟩, S.locals hW F k, F, trivial, rfl, rfl, q⟩
abbrev Sto (env : Env) (x : Str) : Prop := Own env (envW env) x
theorem sto_ok {x : Str} {d : V} {v : Value} {Q : Fl → M → List Cell → Prop} (hk : Sto env x) (q : Q .next ((x, d) :: m) σ) (P : Pre C H env m σ A s.heap ρ) (R : Rep C s.heap ρ v d) :
    wpAny (C.M) A (storeName env x v) (fun _ s' => Ran C env s ρ Q .next s') (fun _ _ => False) s :=
  mono (sto_own hk (Q := fun m => Q .next m σ) q P R) fun _ s' x => by
    obtain ⟨fl, m', h', tk, ρ', σ', e, g, S, F, r, rfl, rfl, z⟩ := x.ran (fun _ q => q) P.st
    exact ⟨.next, m', h', tk, ρ', _, e, g, S, F, r, z⟩
theorem wa_name {x : Str} {pos : Pos} {d : V} {Q : M → List Cell → Prop} (hk : Sto env x) (q : Q ((x, d) :: m) σ) : WA C H env (.Name x pos) d m σ Q := fun A s ρ v P R =>
  wpAny_assign_Name (sto_ok hk q P R)
theorem w1_assign {x : Str} {p pos : Pos} {e : Expr} {Q : Fl → M → List Cell → Prop} (h : WL C H env e m σ fun d σ₁ => Q .next ((x, d) :: m) σ₁) (hk : Sto env x)
    (hs : swapsWith e (some (.Name x p)) pos.line env = pure false) : W1 C H env (.Assign [.Name x p] e pos) m σ Q := fun A s ρ P => by
  refine wpAny_Assign_Name (mono (h A s ρ P) fun v s₁ g₁ => g₁.andThen fun d h₁ t₁ ρ₁ σ₁ g S R z => ?_) hs
  exact mono (sto_ok (s := (up s h₁ t₁)) hk z (P.grow g S) R) fun _ s' x => x.behind g
end

theorem zip_find {p : Str} : ∀ {ps : List Str} {vs : List Value}, ps.length = vs.length → p ∈ ps → ((ps.zip vs).lookup p).isNone = false
  | [], _, _, h => nomatch h
  | q :: ps, [], h, _ => nomatch h
  | q :: ps, v :: vs, h, m => by
    rw [List.zip_cons_cons, lookup_if]
    by_cases e : q = p
    · rw [if_pos e]; rfl
    · rw [if_neg e]; exact zip_find (Nat.succ.inj h) ((List.mem_cons.mp m).resolve_left fun z : p = q => e z.symm)
theorem zip_all {β : Type} (f : Str → Option β) (g : Str × Value → β) : ∀ {ps : List Str} {vs : List Value}, ps.length = vs.length → (∀ x ∈ ps.zip vs, f x.1 = some (g x)) → ps.filterMap f = (ps.zip vs).map g
  | [], _, _, _ => rfl
  | q :: ps, [], h, _ => nomatch h
  | q :: ps, v :: vs, h, k => by
    rw [List.zip_cons_cons, List.map_cons, List.filterMap_cons, k (q, v) (.head _)]
    exact congrArg _ (zip_all f g (Nat.succ.inj h) fun x m => k x (.tail _ m))
theorem zip_at {ps : List Str} : ∀ {vs : List Value}, ps.Nodup → ∀ x ∈ ps.zip vs, (ps.zip vs).lookup x.1 = some x.2 := by
  induction ps with
  | nil => intro vs _ x m; exact nomatch m
  | cons p ps ih =>
    intro vs nd x m
    obtain ⟨h1, h2⟩ := List.nodup_cons.mp nd
    cases vs with
    | nil => exact nomatch m
    | cons v vs =>
      rw [List.zip_cons_cons, lookup_if]
      rcases List.mem_cons.mp m with e | m
      · rw [e, if_pos rfl]
      · rw [if_neg fun e : p = x.1 => h1 (e ▸ (List.of_mem_zip m).1)]
        exact ih h2 x m
theorem bind_plain {fd : FuncData} {vals : List Value} {as : List Arg} (hp : fd.params = { posonlyargs := [], args := as, vararg := none, kwonlyargs := [], kw_defaults := [], kwarg := none, defaults := [] }) (hd : fd.defaults = .none)
    (hn : (as.map (·.arg)).Nodup) (hl : as.length = vals.length) : bindArgs fd ⟨vals, []⟩ = pure ((as.map (·.arg)).zip vals) := by
  generalize hps : as.map (·.arg) = ps at hn ⊢
  have hl' : ps.length = vals.length := by rw [← hps, List.length_map]; exact hl
  obtain ⟨f1, f2, f3, f4, f5, f6, f7, f8, f9, f10, f11⟩ := fd
  subst hp hd
  unfold bindArgs
  dsimp only
  rw [hps]
  have hz : (ps.filterMap fun n => ((ps.zip vals).lookup n).map fun v => (n, v)) = ps.zip vals :=
    (zip_all _ (fun x => x) hl' fun x m => congrArg (Option.map _) (zip_at hn x m)).trans (List.map_id _)
  refine Eq.trans (if_neg fun h => Nat.lt_irrefl _ (hl' ▸ of_decide_eq_true (Bool.and_eq_true_iff.mp h).1)) (Eq.trans (if_neg fun h => ?_) ?_)
  · exact Bool.false_ne_true ((congrArg (fun l : List Str => !l.isEmpty) (List.filter_eq_nil_iff.mpr fun x m z => Bool.false_ne_true ((zip_find hl' (List.mem_of_mem_take m)).symm.trans z))).symm.trans h)
  · rw [show List.drop (((none : Option (Array Value)).getD #[]).toList.length - (List.map (fun x : Arg => x.arg) [] ++ ps).length) ((none : Option (Array Value)).getD #[]).toList = [] from List.drop_nil, List.zip_nil_right]
    show (pure ((ps ++ []).filterMap _) : Sem (List (Str × Value))) = _
    rw [List.append_nil]
    exact congrArg pure hz
structure FnIs (K : Frag) (f : Addr) (as : List Arg) (body : List Stmt) (sc : Scope) (fd : FuncData) : Prop where
  look : ∃ oc od osl, K.lookup f = some ⟨oc, od, .func fd, osl⟩
  params : fd.params = { posonlyargs := [], args := as, vararg := none, kwonlyargs := [], kw_defaults := [], kwarg := none, defaults := [] }
  bd : fd.body = .stmts body
  scp : fd.scope = sc
  gl : fd.globals = mainGlobals
  bu : fd.builtins = builtinsNs
  clo : fd.closure = []
  dv : fd.defaults = .none
  code : codeIn K fd.code fd.qualname = true
  nd : (as.map (·.arg)).Nodup
  kinds : ((as.map (·.arg)).all fun y => (sc.names.lookup y == some .local || sc.names.lookup y == some .cell) && !(y == ("__debug__" : Str)) && !(y == ("__classdict__" : Str))) = true
  cn : ((cellsFrom 0 sc.names []).map (·.1)).Nodup
  co : sc.isCoroutine = false
  gen : sc.isGenerator = false
  fn : sc.kind = .function
structure EnvFor (scope : Scope) (env : Env) : Prop where
  sc : env.scope = scope
  cells : ∀ x, scope.names.lookup x = some .cell → (env.cells.lookup x).isSome = true
def SC (C : Cx) (H : Nat) (f : Addr) (args : List V) (σ : List Cell) (Q : V → List Cell → Prop) : Prop :=
  ∀ A s ρ vs, Ok0 C H σ A s.heap ρ → RepL C s.heap ρ vs args → codeAny (C.M) A (.call (.ref f) ⟨vs, []⟩) (fun r s' => match r with | .ok (.ret v) => Got C s ρ Q v s' | _ => False) s
theorem SC.run {C : Cx} {H : Nat} {f : Addr} {args : List V} {σ : List Cell} {Q : V → List Cell → Prop} (x : SC C H f args σ Q) {A : Around} {s : Shared} {ρ : Rg} {vs : List Value} (P : Ok0 C H σ A s.heap ρ) (R : RepL C s.heap ρ vs args) : wpAny (C.M) A (call (.ref f) vs) (Got C s ρ Q) (fun _ _ => False) s :=
  wpAny_call (codeAny_mono (x A s ρ vs P R) fun r s' h => by rcases r with e | (v | _ | _ | _) <;> first | exact h | exact h.elim)
def retQ (Q : V → List Cell → Prop) : Fl → M → List Cell → Prop
  | .ret d, _, σ => Q d σ
  | .next, _, σ => Q .none σ
  | _, _, _ => False
section
variable {C : Cx} {H : Nat} {σ σ' : List Cell} {A : Around} {h h' : Heap} {ρ ρ' : Rg} {s : Shared}
theorem SC.map {f : Addr} {args : List V} {Q Q' : V → List Cell → Prop} (x : SC C H f args σ Q) (g : ∀ {A s ρ v s'}, Ok0 C H σ A s.heap ρ → Got C s ρ Q v s' → Got C s ρ Q' v s') : SC C H f args σ Q' := fun A s ρ vs P R =>
  codeAny_mono (x A s ρ vs P R) fun r s' h => by rcases r with e | (v | _ | _ | _) <;> first | exact h.elim | exact g P h
theorem SC.up {H' : Nat} {f : Addr} {args : List V} {Q : V → List Cell → Prop} (x : SC C H f args σ Q) (l : H ≤ H') : SC C H' f args σ Q := fun A s ρ vs P R => x A s ρ vs ⟨P.ok, P.am.le l, P.st⟩ R
theorem lookup_nd {α : Type} {n x : Str} {r : List (Str × α)} (h1 : n ∉ r.map (·.1)) (q : n = x) : r.lookup x = none :=
  List.lookup_eq_none_iff.mpr fun p hp => bne_iff_ne.mpr fun e => h1 (List.mem_map.mpr ⟨p, hp, (q.trans e).symm⟩)
theorem bindL_lookup (kof : Str → Option NameKind) : ∀ (bs : List (Str × Value)) (m0 : Str → Option Value) (x : Str), (bs.map (·.1)).Nodup → kof x = some .local →
    bindL kof bs m0 x = (bs.lookup x).or (m0 x)
  | [], m0, x, _, _ => rfl
  | (n, v) :: r, m0, x, hn, hk => by
    obtain ⟨h1, h2⟩ := List.nodup_cons.mp hn
    refine (bindL_lookup kof r _ x h2 hk).trans ?_
    rw [lookup_if]
    by_cases q : n = x
    · rw [if_pos q, lookup_nd h1 q]; simp [q, hk]
    · rw [if_neg q]
      congr 1
      split
      · exact if_neg fun e => q e.symm
      · rfl
theorem bindC_lookup (kof : Str → Option NameKind) : ∀ (bs : List (Str × Value)) (m0 : Str → Option Value) (x : Str), (bs.map (·.1)).Nodup → kof x ≠ some .local →
    bindC kof bs m0 x = (bs.lookup x).or (m0 x)
  | [], m0, x, _, _ => rfl
  | (n, v) :: r, m0, x, hn, hk => by
    obtain ⟨h1, h2⟩ := List.nodup_cons.mp hn
    refine (bindC_lookup kof r _ x h2 hk).trans ?_
    rw [lookup_if]
    by_cases q : n = x
    · rw [if_pos q, lookup_nd h1 q]; simp [q, hk]
    · rw [if_neg q]
      congr 1
      split
      · rfl
      · exact if_neg fun e => q e.symm
theorem zip_lookup {vs : List Value} {ds : List V} (r : RepL C h ρ vs ds) : ∀ {ps : List Str} {x : Str} {d : V}, (ps.zip ds).lookup x = some d → ∃ v, (ps.zip vs).lookup x = some v ∧ Rep C h ρ v d :=
  r.ind (P := fun vs ds => ∀ {ps : List Str} {x : Str} {d : V}, (ps.zip ds).lookup x = some d → ∃ v, (ps.zip vs).lookup x = some v ∧ Rep C h ρ v d)
    (fun {ps _ _} e => by cases ps <;> exact nomatch e) fun {v vs d ds} a _ k ps x d' e => by
      cases ps with
      | nil => exact nomatch e
      | cons p ps =>
        rw [List.zip_cons_cons, lookup_if] at e
        rw [List.zip_cons_cons, lookup_if]
        by_cases q : p = x
        · rw [if_pos q] at e ⊢; exact ⟨v, rfl, Option.some.inj e ▸ a⟩
        · rw [if_neg q] at e ⊢; exact k e
theorem kinds_of {scope : Scope} {as : List Arg} (k : ((as.map (·.arg)).all fun y => (scope.names.lookup y == some .local || scope.names.lookup y == some .cell) && !(y == ("__debug__" : Str)) && !(y == ("__classdict__" : Str))) = true) {y : Str} (m : y ∈ as.map (·.arg)) :
    (scope.names.lookup y = some .local ∨ scope.names.lookup y = some .cell) ∧ (y == ("__debug__" : Str)) = false ∧ (y == ("__classdict__" : Str)) = false := by
  have := List.all_eq_true.mp k y m
  simp only [Bool.and_eq_true, Bool.not_eq_true', Bool.or_eq_true, beq_iff_eq] at this
  obtain ⟨⟨a, b⟩, c⟩ := this
  exact ⟨a, b, c⟩
theorem Carry.leave {Ls l f : List Addr} : Carry h ⟨l, Ls ++ f⟩ h ⟨l, f⟩ := ⟨fun e => e, fun {a o} m n e => ⟨m, fun q => n (List.mem_append_right _ q), e⟩⟩
theorem St.pop {ls l f : List Addr} (S : St C h ⟨l, ls ++ f⟩ σ) : St C h ⟨l, f⟩ σ := S.move Carry.leave (fun _ _ _ e => e) (fun _ _ _ e => e) fun a m => S.onF (List.mem_append_right _ m)
theorem Rg.eq_of {l' f : List Addr} (e : ρ.f = f) : ρ = ⟨ρ.l, f⟩ := e ▸ rfl
theorem amb_in {A A' : Around} {H : Nat} (a : Amb A (H + 1)) (h : A'.handled = none) (d : A'.depth = A.depth + 1) (u : A'.units ≤ A.units + 16) : Amb A' H :=
  ⟨h, by rw [d, Nat.add_assoc, Nat.add_comm 1]; exact a.dp, Nat.lt_of_le_of_lt (Nat.add_le_add_right (Nat.le_trans (Nat.add_le_add_right u _) (by rw [Nat.add_assoc, Nat.add_comm 16]; exact Nat.le_refl _)) 200) a.un⟩
theorem sc_intro {f : Addr} {as : List Arg} {body : List Stmt} {scope : Scope} {fd : FuncData} {args : List V} {Q : V → List Cell → Prop} (F : FnIs C.K f as body scope fd) (hl : as.length = args.length)
    (hb : ∀ env, EnvFor scope env → WX C H env body ((as.map (·.arg)).zip args) σ (retQ Q)) : SC C (H + 1) f args σ Q := fun A s ρ vs P R => by
  obtain ⟨oc, od, osl, hk⟩ := F.look
  have ho := P.st.base _ _ (P.ok.KB _ _ hk)
  have hlv : as.length = vs.length := hl.trans R.length.symm
  have hcd := codeRec_of (P.ok.KB.keeps P.st.base) F.code
  have hmem : ∀ y ∈ (as.map (·.arg)).zip vs, y.1 ∈ as.map (·.arg) := fun y hy => (List.of_mem_zip hy).1
  refine (codeAny_call_cells (fd := fd) P.am.room ho rfl (P.ok.nolimit.keeps P.st.base) hcd F.bd (bind_plain F.params F.dv F.nd hlv) F.clo (fun y hy => ?_) (fun s₁ x => ?_) (by rw [F.scp]; exact F.co) (by rw [F.scp]; exact F.gen) (by rw [F.scp]; exact F.fn))
  · rw [F.scp]
    exact (kinds_of F.kinds (hmem y hy)).1.imp id fun k => ⟨k, cellsFrom_some _ _ _ (.inl k)⟩
  · obtain ⟨h₁, tk, rfl, kf⟩ := x.done
    have ez : (callEnvC fd s.heap.objs.size f) = newEnv scope s.heap.objs.size mainGlobals (cellsFrom (s.heap.objs.size + 1) scope.names []) (fd.qualname ++ ".<locals>.") (some f) fd.code none builtinsNs := by
      unfold callEnvC; rw [F.scp, F.gl, F.bu]
    generalize hE : callEnvC fd s.heap.objs.size f = env at x ez ⊢
    have esc : env.scope = scope := congrArg Env.scope ez
    have elo : env.locals = s.heap.objs.size := congrArg Env.locals ez
    have ece : env.cells = cellsFrom (s.heap.objs.size + 1) scope.names [] := congrArg Env.cells ez
    have eki : ∀ y, env.kindOf y = scope.names.lookup y := fun y => congrArg (fun z : Scope => z.names.lookup y) esc
    have nd : (env.cells.map (·.1)).Nodup := by rw [ece, cellsFrom_names scope.names 0 (s.heap.objs.size + 1) [] [] rfl |>.symm]; exact F.cn
    have xc : ∀ p ∈ env.cells, s.heap.get? p.2 = none ∧ ∃ v, h₁.IsCell p.2 v := fun p hp => ⟨none_of_size (elo ▸ Nat.le_of_lt (x.above p.1 p.2 hp)), _, x.cell p.1 p.2 (lookup_of_mem_nodup nd hp)⟩
    have hLs : ∀ a ∈ envW env, s.heap.get? a = none := fun a ha => (List.mem_cons.mp ha).elim (fun e => e ▸ none_of_size (Nat.le_of_eq elo.symm)) fun e => let ⟨p, hp, e⟩ := List.mem_map.mp e; e ▸ (xc p hp).1
    have cr : Carry s.heap ρ h₁ ⟨ρ.l, envW env ++ ρ.f⟩ := Full.enter kf hLs
    have hbm : ((as.map (·.arg)).zip vs).map (·.1) = as.map (·.arg) := List.map_fst_zip (by rw [List.length_map, hlv]; exact Nat.le_refl _)
    have Rz := R.carry cr
    have F₁ : Fm C env ((as.map (·.arg)).zip args) h₁ ⟨ρ.l, envW env ++ ρ.f⟩ := by
      refine ⟨(congrArg Scope.kind esc).trans F.fn, congrArg Env.globals ez, congrArg Env.builtins ez, ⟨_, x.toInCall.ns, fun y d e k => ?_⟩, fun y d e k => ?_, fun p hp => (xc p hp).2, x.apart, .head _, fun p hp => List.mem_append_left _ (cell_envW hp), fun y d e => ?_⟩
      · obtain ⟨v, ev, r⟩ := zip_lookup Rz e
        exact ⟨v, by rw [bindL_lookup _ _ _ _ (by rw [hbm]; exact F.nd) k, ev]; rfl, r⟩
      · obtain ⟨v, ev, r⟩ := zip_lookup Rz e
        obtain ⟨kk, _, ncd⟩ := kinds_of F.kinds (hmem _ (mem_of_lookup ev))
        have kc := kk.resolve_left fun z => k ((eki y).trans z)
        obtain ⟨c, hc⟩ := Option.isSome_iff_exists.mp (show (env.cells.lookup y).isSome = true by rw [ece]; exact cellsFrom_some _ _ _ (.inl kc))
        have i := x.cell y c hc
        rw [bindC_lookup _ _ _ _ (by rw [hbm]; exact F.nd) k, ev] at i
        exact ⟨.inl ((eki y).trans kc), ncd, c, v, hc, i, r⟩
      · obtain ⟨v, ev, r⟩ := zip_lookup Rz e
        exact (kinds_of F.kinds (hmem _ (mem_of_lookup ev))).2.1
    have S₁ : St C h₁ ⟨ρ.l, envW env ++ ρ.f⟩ σ := P.st.pushed kf hLs F₁.live
    have EF : EnvFor scope env := ⟨esc, fun y hy => by rw [ece]; exact cellsFrom_some _ _ _ (.inl hy)⟩
    have am : Amb (A.deeper env) H := amb_in (A' := A.deeper env) P.am P.am.hd rfl (Nat.add_le_add_left (by decide) _)
    refine monoE (hb env EF (A.deeper env) (up s h₁ tk) ⟨ρ.l, envW env ++ ρ.f⟩ ⟨P.ok, am, S₁, F₁⟩) fun fl s' yy => yy.elim fun fl' m' h' tk' ρ' σ' g S Fm' RF z => ?_
    have eρ : ρ' = ⟨ρ'.l, envW env ++ ρ.f⟩ := Rg.eq_of (l' := ρ.l) g.fr
    rw [eρ] at S RF
    have g' : Grow s.heap ρ h' ⟨ρ'.l, ρ.f⟩ := ⟨g.pre, rfl, fun a m n => none_of fun o e => no_both (g.fresh a m n) (kf _ _ e), fun b o m _ e => g.kp b o m (fun q => no_both (hLs b q) e) (kf _ _ e)⟩
    have fin : ∀ v d, Rep C h' ⟨ρ'.l, envW env ++ ρ.f⟩ v d → Q d σ' → Got C s ρ Q v (up s h' tk') := fun v d r q => ⟨d, h', tk', ⟨ρ'.l, ρ.f⟩, σ', rfl, g', S.pop, r.carry Carry.leave, q⟩
    cases fl <;> cases fl' <;> first | exact RF.elim | exact z.elim | exact fin _ _ .none z | exact fin _ _ RF z
end

def Glo (C : Cx) (x : Str) (v : Value) : Prop := nsIn C.K mainGlobals x = some (some v)
def Bui (C : Cx) (x : Str) (v : Value) : Prop := nsIn C.K mainGlobals x = some none ∧ bootBuiltins x = some v ∧ x ≠ "__name__"
def Out (env : Env) (x : Str) : Prop := env.kindOf x = some .globalImplicit ∧ (x == ("__debug__" : Str)) = false
section
variable {C : Cx} {H : Nat} {env : Env} {m m' : M} {σ σ' : List Cell} {A : Around} {h h' : Heap} {ρ ρ' : Rg} {s : Shared}
theorem glo_name {x : Str} {pos : Pos} {v : Value} {Q : Value → Shared → Prop} (P : Pre C H env m σ A s.heap ρ) (o : Out env x) (g : Glo C x v) (q : Q v s) : wpAny (C.M) A (eval (.Name x pos) env) Q (fun _ _ => False) s :=
  Name_function_global P.fm.fn o.1 (loadGlobal_global (by rw [P.fm.gl]; exact P.ok.g.keeps P.st.base) (mg_of P.ok.KB P.ok.g g) q) o.2
theorem bui_name {x : Str} {pos : Pos} {v : Value} {Q : Value → Shared → Prop} (P : Pre C H env m σ A s.heap ρ) (o : Out env x) (g : Bui C x v) (q : Q v s) : wpAny (C.M) A (eval (.Name x pos) env) Q (fun _ _ => False) s :=
  Name_function_global P.fm.fn o.1 (loadGlobal_builtin (by rw [P.fm.gl]; exact P.ok.g.keeps P.st.base) (mg_none_of P.ok.KB P.ok.g g.1) (by rw [P.fm.bu]; exact P.ok.b.keeps P.st.base) ((P.ok.bs x g.2.2).trans g.2.1) q) o.2
theorem backTo_plain (pos : Pos) (es : List Expr) (env : Env) : (backTo pos (starEach es env)).any (·.1) = (starEach es env).any (·.1) := by
  unfold backTo
  rw [List.any_map]; rfl
theorem wl_args {f : Value} {es : List Expr} {pos : Pos} {Q : Args → Shared → Prop} (hp : (starEach es env).any (·.1) = false) (h : wpAny (C.M) A (spliced (backTo pos (starEach es env))) (fun vs s' => Q ⟨vs, []⟩ s') (fun _ _ => False) s) :
    wpAny (C.M) A (evalArgs f true (backTo pos (starEach es env)) []) Q (fun _ _ => False) s := by
  cases e : backTo pos (starEach es env) with
  | nil =>
    rw [e] at h
    unfold evalArgs
    show wpAny _ A (spliced [] >>= _) _ _ s
    exact wpAny_bind (mono h fun vs s₁ h₁ => wpAny_holding (wpAny_bind (wpAny_pure (wpAny_bind (wpAny_pure (wpAny_pure h₁))))))
  | cons x r =>
    have b : (backTo pos (starEach es env)).any (·.1) = false := (backTo_plain pos es env).trans hp
    rw [e, List.any_cons, Bool.or_eq_false_iff] at b
    obtain ⟨x1, x2⟩ := x
    obtain rfl : x1 = false := b.1
    rw [e] at h
    exact evalArgs_plain h
theorem wl_call {x : Str} {fp pos : Pos} {es : List Expr} {f : Addr} {Q : V → List Cell → Prop} (o : Out env x) (g : Glo C x (.ref f)) (fn : ∃ oc od fd osl, C.K.lookup f = some ⟨oc, od, .func fd, osl⟩) (hp : (starEach es env).any (·.1) = false)
    (h : WLs C H env es m σ fun ds σ₁ => SC C H f ds σ₁ Q) : WL C H env (.Call (.Name x fp) es [] pos) m σ Q := fun A s ρ P => by
  obtain ⟨oc, od, fd, osl, hk⟩ := fn
  show wpAny _ A (eval (.Name x fp) env >>= fun v => callWith pos v [] (backTo pos (starEach es env)) (backToKw pos (keywordEach [] env))) _ _ s
  refine wpAny_bind (glo_name P o g ?_)
  refine callWith_function (o := ⟨oc, od, .func fd, osl⟩) (fd := fd) (wl_args hp (mono (h A s ρ pos P) fun vs s₁ yy => ?_))
  obtain ⟨ds, h₁, t₁, ρ₁, σ₁, rfl, g, S, R, z⟩ := yy
  refine ⟨⟨S.base _ _ (P.ok.KB _ _ hk), rfl⟩, ?_⟩
  exact mono (z.run ⟨P.ok, P.am, S⟩ R) fun v s' x => x.trans g
def BC (C : Cx) (H : Nat) (f : Value) (args : List V) (σ : List Cell) (Q : V → List Cell → Prop) : Prop :=
  ∀ A s ρ vs, Ok0 C H σ A s.heap ρ → RepL C s.heap ρ vs args → wpAny (C.M) A (call f vs) (Got C s ρ Q) (fun _ _ => False) s
theorem callWith_machine {f : Value} {first : List Value} {es : List Expr} {pos : Pos} {Q : Value → Shared → Prop} (hk : keeperOf f = pure .machine) (hp : (starEach es env).any (·.1) = false)
    (h : wpAny (C.M) A (spliced (backTo pos (starEach es env))) (fun vs s₁ => wpAny (C.M) A (call f (first ++ vs)) Q (fun _ _ => False) s₁) (fun _ _ => False) s) :
    wpAny (C.M) A (callWith pos f first (backTo pos (starEach es env)) (backToKw pos (keywordEach [] env))) Q (fun _ _ => False) s := by
  unfold callWith
  refine wpAny_bind (wpAny_holding (wl_args hp (mono h fun vs s₁ h₁ => wpAny_bind (wpAny_standAt ?_))))
  have b : (backTo pos (starEach es env)).any (·.1) = false := (backTo_plain pos es env).trans hp
  have b2 : (backToKw pos (keywordEach [] env)).any (fun x => x.1.isNone) = false := rfl
  simp only [b, b2, Bool.or_false]
  rw [hk]
  refine wpAny_bind (wpAny_pure ?_)
  exact wpAny_bind (mono h₁ fun r s₂ hr => wpAny_bind (wpAny_holding (wpAny_point (wpAny_pure hr))))
theorem wl_bcall {x : Str} {fp pos : Pos} {es : List Expr} {f : Value} {Q : V → List Cell → Prop} (o : Out env x) (g : Bui C x f) (hk : keeperOf f = pure .machine) (hp : (starEach es env).any (·.1) = false)
    (h : WLs C H env es m σ fun ds σ₁ => BC C H f ds σ₁ Q) : WL C H env (.Call (.Name x fp) es [] pos) m σ Q := fun A s ρ P => by
  show wpAny _ A (eval (.Name x fp) env >>= fun v => callWith pos v [] (backTo pos (starEach es env)) (backToKw pos (keywordEach [] env))) _ _ s
  refine wpAny_bind (bui_name P o g (callWith_machine hk hp (mono (h A s ρ pos P) fun vs s₁ yy => yy.elim fun ds h₁ t₁ ρ₁ σ₁ g S R z => ?_)))
  exact mono (z A _ ρ₁ vs ⟨P.ok, P.am, S⟩ R) fun v s' x => x.trans g
theorem wl_glo {x : Str} {pos : Pos} {v : Value} {d : V} {Q : V → List Cell → Prop} (o : Out env x) (g : Glo C x v) (R : ∀ h ρ, St C h ρ σ → C.K.In h → Rep C h ρ v d) (q : Q d σ) : WL C H env (.Name x pos) m σ Q := fun A s ρ P =>
  glo_name P o g (Got.here (tk := s.toks) P.st (R _ _ P.st (P.ok.KB.keeps P.st.base)) q)
end

mutual
def V.py : V → PyData
  | .none => .none | .bool b => .bool b | .int i => .int i | .str s => .str s
  | .tup l => .tuple (V.pys l) | .lst l => .list (V.pys l)
  | .dct _ => .none | .loc _ => .none | .obj _ _ => .none
def V.pys : List V → List PyData
  | [] => []
  | d :: r => d.py :: V.pys r
end
def V.leaf : V → Bool
  | .none => true | .bool _ => true | .int _ => true | .str _ => true
  | _ => false
def V.pl : Nat → V → Bool
  | 0, d => d.leaf
  | n + 1, d => match d with
    | .tup l => l.all (V.pl n)
    | .lst l => l.all (V.pl n)
    | d => d.leaf
abbrev V.pls (n : Nat) (l : List V) : Bool := l.all (V.pl n)
section
variable {C : Cx} {h : Heap} {ρ : Rg}
abbrev Rds (h : Heap) (v : Value) (d : V) : Prop := ∀ n, d.pl n = true → ∃ as, Reads h v d.py as ∧ d.py.canLay0 = true ∧ d.py.depth ≤ n
abbrev RdsL (h : Heap) (vs : List Value) (ds : List V) : Prop := ∀ n, V.pls n ds = true → ∃ as, ReadsAll h vs (V.pys ds) as ∧ PyData.canLayAll0 (V.pys ds) = true ∧ PyData.depthAll (V.pys ds) ≤ n
theorem not_pl {d : V} {P : Nat → Prop} (h : d.leaf = false) (e : ∀ n, V.pl (n + 1) d = d.leaf) : ∀ n, V.pl n d = true → P n := fun n k => by
  cases n with
  | zero => exact Bool.noConfusion (h.symm.trans k)
  | succ n => exact Bool.noConfusion (h.symm.trans ((e n).symm.trans k))
theorem Rep.reads0 {v : Value} {d : V} (r : Rep C h ρ v d) : Rds h v d :=
  Rep.rec (motive_1 := fun v d _ => Rds h v d) (motive_2 := fun vs ds _ => RdsL h vs ds) (motive_3 := fun _ _ _ => True)
    (fun n _ => ⟨_, .none, rfl, Nat.zero_le _⟩) (fun b n _ => ⟨_, .bool b, rfl, Nat.zero_le _⟩) (fun i t n _ => ⟨_, .int i t, rfl, Nat.zero_le _⟩) (fun s t k n _ => ⟨_, .str s t, k, Nat.zero_le _⟩)
    (fun _ _ e _ k n => n.casesOn (fun q => nomatch q) fun n q => let ⟨as, x, y, z⟩ := k n q; ⟨_, .tuple e rfl rfl x, y, Nat.succ_le_succ z⟩)
    (fun _ _ e _ k n => n.casesOn (fun q => nomatch q) fun n q => let ⟨as, x, y, z⟩ := k n q; ⟨_, .list e rfl rfl x, y, Nat.succ_le_succ z⟩)
    (fun _ _ _ _ _ _ _ => not_pl rfl fun _ => rfl) (fun _ => not_pl rfl fun _ => rfl) (fun _ _ _ _ => not_pl rfl fun _ => rfl)
    (fun n _ => ⟨_, .nil, rfl, Nat.zero_le _⟩)
    (fun _ _ k k' n q => by
      obtain ⟨q1, q2⟩ := Bool.and_eq_true_iff.mp q
      obtain ⟨as, x, y, z⟩ := k n q1
      obtain ⟨bs, x', y', z'⟩ := k' n q2
      exact ⟨_, .cons x x', Bool.and_eq_true_iff.mpr ⟨y, y'⟩, Nat.max_le.mpr ⟨z, z'⟩⟩)
    trivial (fun _ _ _ _ => trivial) r
theorem Rep.reads {n : Nat} {v : Value} {d : V} (r : Rep C h ρ v d) (k : d.pl n = true) : ∃ as, Reads h v d.py as ∧ d.py.canLay0 = true ∧ d.py.depth ≤ n := r.reads0 n k
theorem RepL.reads {n : Nat} {v : List Value} {d : List V} (r : RepL C h ρ v d) : V.pls n d = true → ∃ as, ReadsAll h v (V.pys d) as ∧ PyData.canLayAll0 (V.pys d) = true ∧ PyData.depthAll (V.pys d) ≤ n :=
  r.ind (P := fun vs ds => V.pls n ds = true → ∃ as, ReadsAll h vs (V.pys ds) as ∧ PyData.canLayAll0 (V.pys ds) = true ∧ PyData.depthAll (V.pys ds) ≤ n) (fun _ => ⟨_, .nil, rfl, Nat.zero_le _⟩)
    fun a _ k' q => by
      obtain ⟨q1, q2⟩ := Bool.and_eq_true_iff.mp q
      obtain ⟨as, x, y, z⟩ := a.reads q1
      obtain ⟨bs, x', y', z'⟩ := k' q2
      exact ⟨_, .cons x x', Bool.and_eq_true_iff.mpr ⟨y, y'⟩, Nat.max_le.mpr ⟨z, z'⟩⟩
end
def isTup : V → Bool
  | .tup _ => true
  | _ => false
def Holds (σ : List Cell) : V → List V → Prop
  | .tup l, xs => l = xs
  | .lst l, xs => l = xs
  | .loc n, xs => σ[n]? = some (.list xs)
  | _, _ => False
section
variable {C : Cx} {H : Nat} {env : Env} {m m' : M} {σ σ' : List Cell} {A : Around} {h h' : Heap} {ρ ρ' : Rg} {s : Shared}
theorem list_at {n : Nat} {v : Value} {xs : List V} (S : St C h ρ σ) (R : Rep C h ρ v (.loc n)) (e : σ[n]? = some (.list xs)) : ∃ a vs k, v = .ref a ∧ h.get? a = some (lstO vs k) ∧ RepL C h ρ vs xs ∧ ρ.l[n]? = some a := by
  obtain ⟨a, e0, r⟩ := R.sees
  obtain ⟨vs, k, e1, e2⟩ := S.cell n a _ r e
  exact ⟨a, vs, k, e0, e1, e2, r⟩
theorem dict_at {n : Nat} {v : Value} {xs : List (Str × V)} (S : St C h ρ σ) (R : Rep C h ρ v (.loc n)) (e : σ[n]? = some (.dict xs)) : ∃ a o kvs, v = .ref a ∧ h.get? a = some o ∧ o.IsDictOf (C.sk) kvs ∧ RepK C h ρ kvs xs ∧ ρ.l[n]? = some a := by
  obtain ⟨a, e0, r⟩ := R.sees
  obtain ⟨o, kvs, e1, e2, e3⟩ := S.cell n a _ r e
  exact ⟨a, o, kvs, e0, e1, e2, e3, r⟩
inductive SqOf (C : Cx) (h : Heap) (ρ : Rg) (v : Value) (xs : List V) : Prop
  | mk (a : Addr) (vs : List Value) (k : Nat) (e : v = .ref a) (g : h.get? a = some (lstO vs k) ∨ h.get? a = some (tupO vs k)) (r : RepL C h ρ vs xs)
theorem sq_of {v : Value} {d : V} {xs : List V} (S : St C h ρ σ) (R : Rep C h ρ v d) (e : Holds σ d xs) : SqOf C h ρ v xs := by
  cases d with
  | tup l => obtain ⟨a, vs, k, e1, _, _, g, r⟩ := R.sees; exact ⟨a, vs, k, e1, .inr g, e ▸ r⟩
  | lst l => obtain ⟨a, vs, k, e1, _, _, g, r⟩ := R.sees; exact ⟨a, vs, k, e1, .inl g, e ▸ r⟩
  | loc n => obtain ⟨a, vs, k, e1, g, r, _⟩ := list_at S R e; exact ⟨a, vs, k, e1, .inl g, r⟩
  | _ => exact e.elim
theorem reads_of_holds {k : Nat} {v : Value} {d : V} {xs : List V} (S : St C h ρ σ) (R : Rep C h ρ v d) (e : Holds σ d xs) (p : V.pls k xs = true) :
    ∃ as, (Reads h v (.list (V.pys xs)) as ∨ Reads h v (.tuple (V.pys xs)) as) ∧ PyData.canLayAll0 (V.pys xs) = true ∧ PyData.depthAll (V.pys xs) ≤ k := by
  obtain ⟨a, vs, k, rfl, g, r⟩ := sq_of S R e
  obtain ⟨as, x, y, z⟩ := r.reads p
  exact g.elim (fun g => ⟨_, .inl (.list g rfl rfl x), y, z⟩) fun g => ⟨_, .inr (.tuple g rfl rfl x), y, z⟩
theorem hu_of {A : Around} {k : Nat} (P : Ok0 C H σ A h ρ) (l : k ≤ 40) : A.units + 1 + k < cLine := Nat.lt_of_le_of_lt (Nat.add_assoc A.units 1 k ▸ Nat.add_le_add_left (Nat.le_trans (Nat.add_le_add_left l 1) (by decide)) _) P.am.units
theorem hu_min {A : Around} {x : Nat} {xs : List V} (P : Ok0 C H σ A h ρ) (l : PyData.depthAll (V.pys xs) ≤ 40) : A.units + 1 + min (PyData.depthAll (V.pys xs)) x < cLine := hu_of P (Nat.le_trans (Nat.min_le_left _ _) l)
theorem cop_in {x c : V} {xs : List V} {Q : Bool → Prop} (e : Holds σ c xs) (p : V.pls 40 xs = true) (p' : x.pl 40 = true) (q : Q ((V.pys xs).any fun y => PyData.eqv y x.py)) : Cop C H .In x c σ Q := fun A s ρ va vb P R R' => by
  obtain ⟨as, rx, l1, d1⟩ := R.reads p'
  obtain ⟨bs, rc, l2, d2⟩ := reads_of_holds P.st R' e p
  rcases rc with rc | rc
  · exact SeqAt.in_list_reads rc rx l2 l1 (hu_min P d2) ⟨_, s.toks, rfl, rfl, q⟩
  · exact SeqAt.in_tuple_reads rc rx l2 l1 (hu_min P d2) ⟨_, s.toks, rfl, rfl, q⟩
theorem cop_notin {x c : V} {xs : List V} {Q : Bool → Prop} (e : Holds σ c xs) (p : V.pls 40 xs = true) (p' : x.pl 40 = true) (q : Q (!(V.pys xs).any fun y => PyData.eqv y x.py)) : Cop C H .NotIn x c σ Q := fun A s ρ va vb P R R' => by
  obtain ⟨as, rx, l1, d1⟩ := R.reads p'
  obtain ⟨bs, rc, l2, d2⟩ := reads_of_holds P.st R' e p
  rcases rc with rc | rc
  · exact SeqAt.notIn_list_reads rc rx l2 l1 (hu_min P d2) ⟨_, s.toks, rfl, rfl, q⟩
  · exact SeqAt.notIn_tuple_reads rc rx l2 l1 (hu_min P d2) ⟨_, s.toks, rfl, rfl, q⟩
def Shown (σ : List Cell) : V → V → Prop
  | .loc n, d => ∃ xs, σ[n]? = some (.list xs) ∧ d = .lst xs
  | d, e => d = e
theorem reads_shown {v : Value} {d e : V} (S : St C h ρ σ) (R : Rep C h ρ v d) (x : Shown σ d e) (p : e.pl 40 = true) : ∃ as, Reads h v e.py as ∧ e.py.canLay0 = true ∧ e.py.depth ≤ 40 := by
  cases d with
  | loc n =>
    obtain ⟨xs, e1, rfl⟩ := x
    obtain ⟨a, vs, k, rfl, e2, r, _⟩ := list_at S R e1
    obtain ⟨as, x, y, z⟩ := r.reads (n := 39) p
    exact ⟨_, .list e2 rfl rfl x, y, Nat.succ_le_succ z⟩
  | _ => exact (show _ = e from x) ▸ (show ∀ d, d.pl 40 = true → Rep C h ρ v d → ∃ as, Reads h v d.py as ∧ d.py.canLay0 = true ∧ d.py.depth ≤ 40 from fun d p R => R.reads p) _ ((show _ = e from x).symm ▸ p) R
theorem shaped_of {p : PyData} (l : p.canLay0 = true) (d : p.depth ≤ 40) : SeqAt.shaped p = true := Bool.and_eq_true_iff.mpr ⟨l, decide_eq_true (Nat.le_trans d (by decide))⟩
theorem cop_eq {a b a' b' : V} {Q : Bool → Prop} (ea : Shown σ a a') (eb : Shown σ b b') (pa : a'.pl 40 = true) (pb : b'.pl 40 = true) (q : Q (PyData.eqv a'.py b'.py)) : Cop C H .Eq a b σ Q := fun A s ρ va vb P R R' => by
  obtain ⟨as, ra, l1, d1⟩ := reads_shown P.st R ea pa
  obtain ⟨bs, rb, l2, d2⟩ := reads_shown P.st R' eb pb
  exact eq_dataH ra rb (shaped_of l1 d1) (shaped_of l2 d2) P.am.units ⟨_, s.toks, rfl, rfl, q⟩
theorem cop_ne {a b a' b' : V} {Q : Bool → Prop} (ea : Shown σ a a') (eb : Shown σ b b') (pa : a'.pl 40 = true) (pb : b'.pl 40 = true) (q : Q (!PyData.eqv a'.py b'.py)) : Cop C H .NotEq a b σ Q := fun A s ρ va vb P R R' => by
  obtain ⟨as, ra, l1, d1⟩ := reads_shown P.st R ea pa
  obtain ⟨bs, rb, l2, d2⟩ := reads_shown P.st R' eb pb
  exact ne_dataH ra rb (shaped_of l1 d1) (shaped_of l2 d2) P.am.units ⟨_, s.toks, rfl, rfl, q⟩
def HoldsD (σ : List Cell) : V → List (Str × V) → Prop
  | .dct l, xs => l = xs
  | .loc n, xs => σ[n]? = some (.dict xs)
  | _, _ => False
theorem dict_of_holds {v : Value} {d : V} {xs : List (Str × V)} (S : St C h ρ σ) (R : Rep C h ρ v d) (e : HoldsD σ d xs) : ∃ a o kvs, v = .ref a ∧ h.get? a = some o ∧ o.IsDictOf (C.sk) kvs ∧ RepK C h ρ kvs xs ∧ (a == sysModules) = false := by
  cases d with
  | dct l => obtain ⟨a, o, kvs, e1, z, _, _, g, i, r⟩ := R.sees; exact ⟨a, o, kvs, e1, g, i, e ▸ r, z⟩
  | loc n => obtain ⟨a, o, kvs, e0, e1, e2, e3, e4⟩ := dict_at S R e; exact ⟨a, o, kvs, e0, e1, e2, e3, S.sy a (List.mem_of_getElem? e4)⟩
  | _ => exact e.elim
end

section
variable {C : Cx} {H : Nat} {env : Env} {m m' : M} {σ σ' : List Cell} {A : Around} {h h' : Heap} {ρ ρ' : Rg} {s : Shared}
theorem bop_ii {op : Operator} {a b c : Int} {Q : V → List Cell → Prop} (k : ∀ (A : Around) (s : Shared) (t t' : Tok) (Q' : Value → Shared → Prop), (∀ t tk, Q' (.int c t) (up s s.heap tk)) → wpAny C.M A (binaryOp op (.int a t) (.int b t')) Q' (fun _ _ => False) s) (q : Q (.int c) σ) : Bop C H op (.int a) (.int b) σ Q := fun A s ρ va vb P R R' => by
  obtain ⟨t, rfl⟩ := R.sees
  obtain ⟨t', rfl⟩ := R'.sees
  exact k A s t t' _ fun t tk => Got.here P.st (.int _ _) q
theorem bop_add {a b : Int} {Q : V → List Cell → Prop} (q : Q (.int (a + b)) σ) : Bop C H .Add (.int a) (.int b) σ Q := bop_ii (fun _ _ _ _ _ h => PySem.wpAny_add_int (h _ _)) q
theorem bop_mul {a b : Int} {Q : V → List Cell → Prop} (l1 : -2 ^ 60 < a) (l2 : a < 2 ^ 60) (q : Q (.int (a * b)) σ) : Bop C H .Mult (.int a) (.int b) σ Q := bop_ii (fun _ _ _ _ _ h => PyProof.Rows.mul_int (h _ _)
  (PySem.IntMulOk.of_left (PySem.intBits_le_64 (Int.lt_trans (by decide) l1) (Int.lt_trans l2 (by decide))))) q
theorem bop_mod {a b : Int} {Q : V → List Cell → Prop} (n : b ≠ 0) (q : Q (.int (a.fmod b)) σ) : Bop C H .Mod (.int a) (.int b) σ Q := bop_ii (fun _ _ _ _ _ h => PyProof.Rows.mod_int n (h _ _)) q
theorem bop_shr {a b : Int} {Q : V → List Cell → Prop} (n : 0 ≤ b) (q : Q (.int (a.fdiv (2 ^ b.toNat))) σ) : Bop C H .RShift (.int a) (.int b) σ Q := bop_ii (fun _ _ _ _ _ h => PyProof.Rows.rshift_int n (h _ _)) q
theorem bop_and {a b : Int} {Q : V → List Cell → Prop} (q : Q (.int (Builtin.bitAnd a b)) σ) : Bop C H .BitAnd (.int a) (.int b) σ Q := bop_ii (fun _ _ _ _ _ h => PyProof.Rows.and_int (h _ _)) q
theorem strOk_append {x y : Str} (a : PyData.strOk x = true) (b : PyData.strOk y = true) : PyData.strOk (x ++ y) = true := by
  unfold PyData.strOk at *
  rw [Str.cps_append, Array.all_append, a, b]; rfl
theorem le_size {m n : Nat} (l : n ≤ m) (h : m ≤ sizeLine) : n ≤ sizeLine := Nat.le_trans l h
theorem size0 : 1000000 ≤ sizeLine := sizeLine_eq ▸ by decide
theorem bop_cat {x y : Str} {Q : V → List Cell → Prop} (l : x.length + y.length ≤ 1000) (q : Q (.str (x ++ y)) σ) : Bop C H .Add (.str x) (.str y) σ Q := fun A s ρ va vb P R R' => by
  obtain ⟨t, rfl, k⟩ := R.sees
  obtain ⟨t', rfl, k'⟩ := R'.sees
  exact PyProof.Rows.add_str (fun t' tk => Got.here P.st (.str _ _ (strOk_append k k')) q) (Nat.le_trans l (Nat.le_trans (by decide) size0))
theorem cop_ii {op : CmpOp} {a b : Int} {r : Bool} {Q : Bool → Prop} (k : ∀ (A : Around) (s : Shared) (t t' : Tok) (Q' : Value → Shared → Prop), Q' (.bool r) s → wpAny C.M A (compareOp op (.int a t) (.int b t')) Q' (fun _ _ => False) s) (q : Q r) : Cop C H op (.int a) (.int b) σ Q := fun A s ρ va vb P R R' => by
  obtain ⟨t, rfl⟩ := R.sees
  obtain ⟨t', rfl⟩ := R'.sees
  exact k A s t t' _ ⟨_, s.toks, rfl, rfl, q⟩
theorem cop_lt {a b : Int} {Q : Bool → Prop} (q : Q (decide (a < b))) : Cop C H .Lt (.int a) (.int b) σ Q := cop_ii (fun _ _ _ _ _ h => PySem.wpAny_lt_int h) q
theorem cop_gt {a b : Int} {Q : Bool → Prop} (q : Q (decide (b < a))) : Cop C H .Gt (.int a) (.int b) σ Q := cop_ii (fun _ _ _ _ _ h => PyProof.Rows.gt_int h) q
theorem cop_ge {a b : Int} {Q : Bool → Prop} (q : Q (decide (b ≤ a))) : Cop C H .GtE (.int a) (.int b) σ Q := cop_ii (fun _ _ _ _ _ h => PyProof.Rows.ge_int h) q
theorem cop_le {a b : Int} {Q : Bool → Prop} (q : Q (decide (a ≤ b))) : Cop C H .LtE (.int a) (.int b) σ Q := cop_ii (fun _ _ _ _ _ h => PyProof.Rows.le_int h) q
def V.isN : V → Bool
  | .none => true
  | _ => false
theorem is_none_rep {v : Value} {d : V} (R : Rep C h ρ v d) : (v == Value.none) = d.isN := R.casesOn (motive_1 := fun v d _ => (v == Value.none) = d.isN) rfl (fun _ => rfl) (fun _ _ => rfl) (fun _ _ _ => rfl) (fun _ _ _ _ => rfl) (fun _ _ _ _ => rfl) (fun _ _ _ _ _ _ => rfl) (fun _ => rfl) (fun _ _ _ _ => rfl)
theorem cop_isnone {d : V} {Q : Bool → Prop} (q : Q d.isN) : Cop C H .Is d .none σ Q := fun A s ρ va vb P R R' => by
  obtain rfl := R'.sees
  exact PySem.is_none ⟨_, s.toks, rfl, rfl, is_none_rep R ▸ q⟩
theorem valueAt_isSome {vs : List (Str × Value)} {ds : List (Str × V)} (r : RepK C h ρ vs ds) (x : Str) : (valueAt vs x).isSome = (ds.lookup x).isSome :=
  r.ind (P := fun vs ds => (valueAt vs x).isSome = (ds.lookup x).isSome) rfl fun {k v vs d ds} _ _ ih => by
    rw [valueAt_cons, lookup_if]
    by_cases q : k = x
    · rw [if_pos q, if_pos q]; rfl
    · rw [if_neg q, if_neg q]; exact ih
theorem cop_ind {x : Str} {d : V} {xs : List (Str × V)} {Q : Bool → Prop} (e : HoldsD σ d xs) (q : Q (xs.lookup x).isSome) : Cop C H .In (.str x) d σ Q := fun A s ρ va vb P R R' => by
  obtain ⟨t, rfl, k⟩ := R.sees
  obtain ⟨a, o, kvs, rfl, ho, hi, rk, ne⟩ := dict_of_holds P.st R' e
  exact wpAny_in_of (strKind_is C.prog C.w x t) ne (Heap.DictOf.mapOf (Heap.dictOf_iff.mpr ⟨o, ho, hi⟩)) ⟨_, _, rfl, rfl, valueAt_isSome rk x ▸ q⟩
theorem cop_notind {x : Str} {d : V} {xs : List (Str × V)} {Q : Bool → Prop} (e : HoldsD σ d xs) (q : Q (!(xs.lookup x).isSome)) : Cop C H .NotIn (.str x) d σ Q := fun A s ρ va vb P R R' => by
  obtain ⟨t, rfl, k⟩ := R.sees
  obtain ⟨a, o, kvs, rfl, ho, hi, rk, ne⟩ := dict_of_holds P.st R' e
  exact wpAny_notIn_of (strKind_is C.prog C.w x t) ne (Heap.DictOf.mapOf (Heap.dictOf_iff.mpr ⟨o, ho, hi⟩)) ⟨_, _, rfl, rfl, valueAt_isSome rk x ▸ q⟩
theorem lst_of {v : Value} {d : V} {xs : List V} (S : St C h ρ σ) (R : Rep C h ρ v d) (e : Holds σ d xs) (nt : isTup d = false) : ∃ a vs k, v = .ref a ∧ h.get? a = some (lstO vs k) ∧ RepL C h ρ vs xs := by
  cases d with
  | lst l => obtain ⟨a, vs, k, e1, _, _, g, r⟩ := R.sees; exact ⟨a, vs, k, e1, g, e ▸ r⟩
  | loc n => obtain ⟨a, vs, k, e1, g, r, _⟩ := list_at S R e; exact ⟨a, vs, k, e1, g, r⟩
  | tup l => exact Bool.noConfusion nt
  | _ => exact e.elim
theorem tup_of {v : Value} {xs : List V} (R : Rep C h ρ v (.tup xs)) : ∃ a vs k, v = .ref a ∧ h.get? a = some (tupO vs k) ∧ RepL C h ρ vs xs := by
  obtain ⟨a, vs, k, e1, _, _, g, r⟩ := R.sees
  exact ⟨a, vs, k, e1, g, r⟩
theorem RepL.size {vs : List Value} {ds : List V} (r : RepL C h ρ vs ds) : vs.toArray.size = ds.length := List.size_toArray.trans r.length
theorem RepL.fits {vs : List Value} {ds : List V} (r : RepL C h ρ vs ds) (l : ds.length ≤ 1000000) : vs.toArray.size ≤ sizeLine := r.size ▸ Nat.le_trans l size0
theorem RepL.fits2 {vs ws : List Value} {ds es : List V} (r : RepL C h ρ vs ds) (r' : RepL C h ρ ws es) (l : ds.length + es.length ≤ 1000000) : vs.toArray.size + ws.toArray.size ≤ sizeLine := r.size ▸ r'.size ▸ Nat.le_trans l size0
theorem got_lst {s : Shared} {vs : List Value} {xs : List V} {Q : V → List Cell → Prop} (S : St C s.heap ρ σ) (r : RepL C s.heap ρ vs xs) (q : Q (.lst xs) σ) {n tk : Nat} : Got C s ρ Q (.ref s.heap.objs.size) (up s (s.heap.push (lstO vs n)) tk) :=
  Got.heap S (Full.push _) (.lst S.fresh_size.1 S.fresh_size.2 (Heap.get?_push_size _ rfl) (r.grow (Full.push _).grow)) q
theorem got_tup {s : Shared} {vs : List Value} {xs : List V} {Q : V → List Cell → Prop} (S : St C s.heap ρ σ) (r : RepL C s.heap ρ vs xs) (q : Q (.tup xs) σ) {n tk : Nat} : Got C s ρ Q (.ref s.heap.objs.size) (up s (s.heap.push (tupO vs n)) tk) :=
  Got.heap S (Full.push _) (.tup S.fresh_size.1 S.fresh_size.2 (Heap.get?_push_size _ rfl) (r.grow (Full.push _).grow)) q
theorem bop_addl {a b : V} {xs ys : List V} {Q : V → List Cell → Prop} (ea : Holds σ a xs) (eb : Holds σ b ys) (na : isTup a = false) (nb : isTup b = false) (l : xs.length + ys.length ≤ 100000) (q : Q (.lst (xs ++ ys)) σ) : Bop C H .Add a b σ Q := fun A s ρ va vb P R R' => by
  obtain ⟨x, vs, k, rfl, e1, r1⟩ := lst_of P.st R ea na
  obtain ⟨y, ws, k', rfl, e2, r2⟩ := lst_of P.st R' eb nb
  refine PySem.P.add_list e1 e2 ?_ (r1.fits2 r2 (Nat.le_trans l (by decide)))
  rw [List.append_toArray]
  exact got_lst P.st (r1.append r2) q
theorem not_empty {vs : List Value} (z : vs ≠ []) : ¬ (vs.toArray.isEmpty = true) := by
  cases vs with
  | nil => exact absurd rfl z
  | cons x r => exact Bool.false_ne_true
theorem bop_addt {xs ys : List V} {Q : V → List Cell → Prop} (l : xs.length + ys.length ≤ 10000) (q : Q (.tup (xs ++ ys)) σ) : Bop C H .Add (.tup xs) (.tup ys) σ Q := fun A s ρ va vb P R R' => by
  obtain ⟨x, vs, k, rfl, e1, r1⟩ := tup_of R
  obtain ⟨y, ws, k', rfl, e2, r2⟩ := tup_of R'
  by_cases z : vs = []
  · subst z
    have z0 : xs = [] := List.length_eq_zero_iff.mp r1.length.symm
    subst z0
    exact PySem.concat_meets ⟨_, e1, rfl⟩ ⟨_, e2, rfl⟩ noFill_tuple_add seq_tuple_add F.slot_tuple_add F.entry_tuple_add (F.args_tuple_add_2 _ _) (AutoSeq1.tuple___add___tuple_tuple_0 x _ k y _ k' rfl) ⟨e1, e2, Got.here (tk := s.toks) P.st R' q⟩
  · by_cases z' : ws = []
    · subst z'
      have z0 : ys = [] := List.length_eq_zero_iff.mp r2.length.symm
      subst z0
      rw [List.append_nil] at q
      exact PySem.concat_meets ⟨_, e1, rfl⟩ ⟨_, e2, rfl⟩ noFill_tuple_add seq_tuple_add F.slot_tuple_add F.entry_tuple_add (F.args_tuple_add_2 _ _) (AutoSeq1.tuple___add___tuple_tuple_1 x _ k y _ k' (not_empty z) rfl) ⟨e1, e2, Got.here (tk := s.toks) P.st R q⟩
    · refine PySem.P.add_tuple e1 e2 (not_empty z) (not_empty z') ?_ (r1.fits2 r2 (Nat.le_trans l (by decide)))
      rw [List.append_toArray]
      exact got_tup P.st (r1.append r2) q
theorem bc1 {f : Value} {d : V} {Q : V → List Cell → Prop} (k : ∀ A s ρ v, Ok0 C H σ A s.heap ρ → Rep C s.heap ρ v d → wpAny C.M A (call f [v]) (Got C s ρ Q) (fun _ _ => False) s) : BC C H f [d] σ Q := fun A s ρ vs P R => by
  obtain ⟨v, rfl, r⟩ := R.one
  exact k A s ρ v P r
theorem bc2 {f : Value} {d d' : V} {Q : V → List Cell → Prop} (k : ∀ A s ρ v v', Ok0 C H σ A s.heap ρ → Rep C s.heap ρ v d → Rep C s.heap ρ v' d' → wpAny C.M A (call f [v, v']) (Got C s ρ Q) (fun _ _ => False) s) : BC C H f [d, d'] σ Q := fun A s ρ vs P R => by
  obtain ⟨v, v', rfl, r, r'⟩ := R.two
  exact k A s ρ v v' P r r'
theorem got_len {s : Shared} {vs : List Value} {xs : List V} {Q : V → List Cell → Prop} (S : St C s.heap ρ σ) (r : RepL C s.heap ρ vs xs) (q : Q (.int xs.length) σ) {t : Tok} {tk : Nat} : Got C s ρ Q (.int vs.toArray.size t) (up s s.heap tk) := by
  rw [r.size]
  exact Got.here S (.int _ _) q
theorem tup_or {d : V} : (∃ l, d = .tup l) ∨ isTup d = false := by cases d <;> first | exact .inr rfl | exact .inl ⟨_, rfl⟩
theorem bc_len {d : V} {xs : List V} {Q : V → List Cell → Prop} (e : Holds σ d xs) (l : xs.length ≤ 1000000) (q : Q (.int xs.length) σ) : BC C H (.builtin "len") [d] σ Q := bc1 fun A s ρ v P r => by
  obtain ⟨a, vs, k, rfl, g, r1⟩ := sq_of P.st r e
  have hf : ((vs.toArray.size : Nat) : Int) < 2 ^ 63 := Int.lt_of_le_of_lt (Int.ofNat_le.mpr (r1.size ▸ l)) (by decide)
  rcases g with g | g
  · exact PySem.Calls.call_len_list ⟨_, g, rfl, k, rfl⟩ hf (got_len P.st r1 q)
  · exact PySem.P.len_tuple g (Int.not_le.mpr hf) (got_len P.st r1 q)
theorem bc_abs {i : Int} {Q : V → List Cell → Prop} (q : Q (.int (if i < 0 then -i else i)) σ) : BC C H (.builtin "abs") [.int i] σ Q := bc1 fun A s ρ v P r => by
  obtain ⟨t, rfl⟩ := r.sees
  exact PyProof.Rows.call_abs_int fun u tk => Got.here P.st (.int _ _) q
theorem bc_tuple_tup {xs : List V} {Q : V → List Cell → Prop} (q : Q (.tup xs) σ) : BC C H (.type "tuple") [.tup xs] σ Q := bc1 fun A s ρ v P r => by
  obtain ⟨a, vs, k, rfl, g, _⟩ := tup_of r
  exact PyProof.Rows.call_tuple_tup ⟨_, g, rfl, _, rfl⟩ (Got.here (tk := s.toks) P.st r q)
theorem bc_tuple_lst {d : V} {xs : List V} {Q : V → List Cell → Prop} (e : Holds σ d xs) (nt : isTup d = false) (l : xs.length ≤ 100000) (q : Q (.tup xs) σ) : BC C H (.type "tuple") [d] σ Q := bc1 fun A s ρ v P r => by
  obtain ⟨a, vs, k, rfl, e1, r1⟩ := lst_of P.st r e nt
  refine PySem.call_tuple_list ⟨_, e1, rfl, k, rfl⟩ (fun h' hk => ?_) (r1.fits (Nat.le_trans l (by decide)))
  have kf : Full s.heap h' := hk
  have g := got_tup (s := up s h' s.toks) (n := 0) (tk := s.toks) (P.st.full kf) (r1.grow kf.grow) q
  exact Got.trans (tk := s.toks) kf.grow g
theorem got_new {s : Shared} {vs : List Value} {xs : List V} {Q : V → List Cell → Prop} (P : Ok0 C H σ A s.heap ρ) {h' : Heap} {c : Nat} (r : RepL C s.heap ρ vs xs) (k : Full s.heap h') (g0 : h'.get? s.heap.objs.size = some (lstO vs c)) (q : Q (.loc σ.length) (σ ++ [.list xs])) : Got C s ρ Q (.ref s.heap.objs.size) (up s h' s.toks) := by
  have f : s.heap.get? s.heap.objs.size = none := none_of_size (Nat.le_refl _)
  obtain ⟨S', g'⟩ := P.st.alloc k f (sys_size P.ok P.st) g0 (c := .list xs) ⟨vs, c, g0, r.grow (k.grow_snoc f)⟩
  exact ⟨_, _, s.toks, _, _, rfl, g', S', .loc (P.st.len ▸ List.getElem?_concat_length), q⟩
theorem bc_list {d : V} {xs : List V} {Q : V → List Cell → Prop} (e : Holds σ d xs) (l : xs.length ≤ 100000) (q : Q (.loc σ.length) (σ ++ [.list xs])) : BC C H (.type "list") [d] σ Q := bc1 fun A s ρ v P r => by
  obtain ⟨a, vs, k, rfl, g, r1⟩ := sq_of P.st r e
  have hsz := r1.fits (Nat.le_trans l (by decide))
  rcases g with g | g
  · exact call_list_seq (hsz := hsz) _ (.inl rfl) g rfl rfl fun h' c' hk hD => got_new P r1 hk hD q
  · exact call_list_seq (hsz := hsz) _ (.inr rfl) g rfl rfl fun h' c' hk hD => got_new P r1 hk hD q
def TyIs (C : Cx) (T : String) (d : V) (σ : List Cell) : Prop :=
  ∀ (s : Shared) ρ v, St C s.heap ρ σ → Rep C s.heap ρ v d → s.TypeIs v T ∧ ∀ a, v = .ref a → ∃ ob, s.heap.get? a = some ob ∧ ob.dict = none
theorem ty_ref {s : Shared} {T : String} {v : Value} {a : Addr} {o : Obj} (e : v = .ref a) (g : s.heap.get? a = some o) (c : o.cls = .type T) (d : o.dict = none) : s.TypeIs v T ∧ ∀ a, v = .ref a → ∃ ob, s.heap.get? a = some ob ∧ ob.dict = none :=
  e ▸ ⟨⟨_, g, c⟩, fun b q => ⟨_, Value.ref.inj q ▸ g, d⟩⟩
theorem ty_list {d : V} {xs : List V} (e : Holds σ d xs) (nt : isTup d = false) : TyIs C "list" d σ := fun s ρ v S R => by
  obtain ⟨a, vs, k, e0, e1, r1⟩ := lst_of S R e nt
  exact ty_ref e0 e1 rfl rfl
theorem ty_str {x : Str} : TyIs C "str" (.str x) σ := fun s ρ v S R => by
  obtain ⟨t, rfl, _⟩ := R.sees
  exact ⟨rfl, fun a q => nomatch q⟩
theorem ty_dict {d : V} {xs : List (Str × V)} (e : HoldsD σ d xs) : TyIs C "dict" d σ := fun s ρ v S R => by
  obtain ⟨a, o, kvs, e0, ho, ⟨es, ep, ex, r⟩, _⟩ := dict_of_holds S R e
  exact ty_ref e0 ho ex.1 ex.2.1
theorem all_not {α : Type} {l : List (Bool × α)} (h : l.any (·.1) = false) : l.all (fun x => !x.1) = true :=
  List.all_eq_true.mpr fun x m => (Bool.not_eq_true' _).mpr (Bool.eq_false_iff.mpr (List.any_eq_false.mp h x m))
theorem wl_meth {T id : String} {o : Expr} {name : Str} {apos pos : Pos} {es : List Expr} {Q : V → List Cell → Prop} (hbase : attributeBase o name env (eval o env) = eval o env) (hline : (apos.endLine == pos.line) = true)
    (hp : (starEach es env).any (·.1) = false) (hfew : es.length < 30) (pa : PlainAttrs T) (sl : Slot T name id) (ty : typeOf (.builtin id) = pure (.type "method_descriptor"))
    (h : WL C H env o m σ fun d σ₁ => TyIs C T d σ₁ ∧ WLs C H env es m σ₁ fun ds σ₂ => BC C H (.builtin id) (d :: ds) σ₂ Q) : WL C H env (.Call (.Attribute o name apos) es [] pos) m σ Q := fun A s ρ P => by
  refine wpAny_Call_method_late hbase (Bool.and_eq_true_iff.mpr ⟨Bool.and_eq_true_iff.mpr ⟨all_not ((backTo_plain pos es env).trans hp), rfl⟩, decide_eq_true hfew⟩) hline rfl (mono (h A s ρ P) fun ov s₁ yy => yy.elim fun d h₁ t₁ ρ₁ σ₁ g S R z => ?_)
  obtain ⟨t1, t2⟩ := z.1 (up s h₁ t₁) ρ₁ ov S R
  refine ⟨T, id, pa, sl, ty, t1, t2, callWith_machine (C := C) rfl hp (mono (z.2 A _ ρ₁ pos (P.grow g S)) fun vs s₂ yy => yy.elim fun ds h₂ t₂ ρ₂ σ₂ g' S' R' z' => ?_)⟩
  exact mono (z' A (up s h₂ t₂) ρ₂ (ov :: vs) ⟨P.ok, P.am, S'⟩ (.cons (R.grow g') R')) fun v s' x => (x.trans (tk := t₂) g').trans (tk := t₁) g
theorem upd_at {a : Addr} {vs ws : List Value} {k : Nat} (he : h.get? a = some (lstO vs k)) (f : Array Value → Array Value) (ef : f vs.toArray = ws.toArray) : ∃ k', (h.update a (Obj.mapSeq f)).get? a = some (lstO ws k') :=
  ⟨_, (Heap.get?_update_self (Obj.mapSeq f) he rfl).trans (by show some _ = _; simp only [Obj.mapSeq, ef]; rfl)⟩
theorem turn_list {n : Nat} {a : Addr} {ys : List V} {vs ws : List Value} {k : Nat} (S : St C h ρ σ) (ha : ρ.l[n]? = some a) (he : h.get? a = some (lstO vs k)) (f : Array Value → Array Value) (ef : f vs.toArray = ws.toArray) (r : RepL C h ρ ws ys) :
    St C (h.update a (Obj.mapSeq f)) ρ (σ.set n (.list ys)) ∧ Grow h ρ (h.update a (Obj.mapSeq f)) ρ := by
  have hs := Heap.SameBut.update h a (Obj.mapSeq f)
  have g : Grow h ρ (h.update a (Obj.mapSeq f)) ρ := ⟨⟨[], (List.append_nil _).symm⟩, rfl, fun _ m n => absurd m n, fun b o m _ e => (hs.2 b (fun q => m (q ▸ List.mem_of_getElem? ha))).trans e⟩
  obtain ⟨k', e'⟩ := upd_at he f ef
  exact S.update ha hs ⟨ws, k', e', r.grow g⟩ ⟨_, e'⟩
theorem got_turn {s : Shared} {n : Nat} {a : Addr} {ys : List V} {vs ws : List Value} {k : Nat} {x : V} {v : Value} {Q : V → List Cell → Prop} (S : St C s.heap ρ σ) (ha : ρ.l[n]? = some a) (he : s.heap.get? a = some (lstO vs k)) (f : Array Value → Array Value) (ef : f vs.toArray = ws.toArray) (r : RepL C s.heap ρ ws ys) (rx : Rep C s.heap ρ v x) (q : Q x (σ.set n (.list ys))) :
    Got C s ρ Q v (up s (s.heap.update a (Obj.mapSeq f)) s.toks) := by
  obtain ⟨S', g'⟩ := turn_list S ha he f ef r
  exact ⟨x, _, s.toks, ρ, _, rfl, g', S', rx.grow g', q⟩
theorem bc_append {n : Nat} {x : V} {xs : List V} {Q : V → List Cell → Prop} (e : σ[n]? = some (.list xs)) (l : xs.length ≤ 100000) (q : Q .none (σ.set n (.list (xs ++ [x])))) : BC C H (.builtin "list.append") [.loc n, x] σ Q := bc2 fun A s ρ v v' P r r' => by
  obtain ⟨a, vs, k, rfl, e1, r1, ha⟩ := list_at P.st r e
  exact call_meets F.slot_list_append ⟨_, e1, rfl⟩ F.entry_list_append (F.args_list_append_2 _ _) (PySem.list_append a vs.toArray k _ (r1.fits (Nat.le_trans l (by decide)))) ⟨e1, got_turn P.st ha e1 _ (List.push_toArray _ _) (r1.append (.cons r' .nil)) .none q⟩
theorem bc_extend {n : Nat} {d : V} {xs ys : List V} {Q : V → List Cell → Prop} (e : σ[n]? = some (.list xs)) (e2 : Holds σ d ys) (nt : isTup d = false) (l : xs.length + ys.length ≤ 100000) (q : Q .none (σ.set n (.list (xs ++ ys)))) : BC C H (.builtin "list.extend") [.loc n, d] σ Q := bc2 fun A s ρ v v' P r r' => by
  obtain ⟨a, vs, k, rfl, e1, r1, ha⟩ := list_at P.st r e
  obtain ⟨b, ws, k', rfl, e1', r1'⟩ := lst_of P.st r' e2 nt
  have hs := r1.fits2 r1' (Nat.le_trans l (by decide))
  exact call_meets F.slot_list_extend ⟨_, e1, rfl⟩ F.entry_list_extend (F.args_list_extend_2 _ _) (AutoSeq1.list_extend_list_list_0 a vs.toArray k b ws.toArray k' (fun z => of_decide_eq_true (Bool.and_eq_true_iff.mp z).2 |> Nat.not_lt.mpr hs) (Nat.le_trans (Nat.le_add_right _ _) hs) (Nat.le_succ_of_le hs))
    ⟨e1, e1', got_turn P.st ha e1 _ (List.append_toArray _ _) (r1.append r1') .none q⟩
theorem seq0 (n : Nat) : seqIndex? 0 (n + 1) = some 0 := if_pos (Bool.and_eq_true_iff.mpr ⟨rfl, decide_eq_true (Int.natCast_pos.mpr n.succ_pos)⟩)
theorem erase0 (v : Value) (vs : List Value) : (v :: vs).toArray.eraseIdxIfInBounds 0 = vs.toArray := by simp [Array.eraseIdxIfInBounds]
theorem bc_pop0 {n : Nat} {x : V} {xs : List V} {Q : V → List Cell → Prop} (e : σ[n]? = some (.list (x :: xs))) (l : xs.length ≤ 100000) (q : Q x (σ.set n (.list xs))) : BC C H (.builtin "list.pop") [.loc n, .int 0] σ Q := bc2 fun A s ρ v v' P r r' => by
  obtain ⟨a, vs, k, rfl, e1, r1, ha⟩ := list_at P.st r e
  obtain ⟨t, rfl⟩ := r'.sees
  obtain ⟨v, ws, rfl, rx, r2⟩ := r1.seen
  exact call_meets F.slot_list_pop ⟨_, e1, rfl⟩ F.entry_list_pop (F.args_list_pop_2 _ _) (PySem.MeetsSeq.list_pop_at a (v :: ws).toArray k 0 _ 0 v (by decide) (seq0 _) rfl (r1.fits (Nat.le_trans (Nat.succ_le_succ l) (by decide)))) ⟨e1, got_turn P.st ha e1 _ (erase0 v ws) r2 rx q⟩
end

inductive ItOut (C : Cx) (wr : List Addr) (P : Heap → Prop) (s : Shared) (ρ : Rg) (v : Value) (x : V) (s' : Shared) : Prop
  | mk (h' : Heap) (tk : Nat) (e : s' = up s h' tk) (p : P h') (k : ∀ b o, b ∉ wr → s.heap.get? b = some o → h'.get? b = some o) (r : Rep C h' ρ v x)
inductive ItEnd (wr : List Addr) (s : Shared) (r : Option Value) (s' : Shared) : Prop
  | mk (h' : Heap) (tk : Nat) (er : r = none) (e : s' = up s h' tk) (k : ∀ b o, b ∉ wr → s.heap.get? b = some o → h'.get? b = some o)
structure Itr (C : Cx) (A : Around) (I : Addr) (wr : List Addr) (tgt : Expr) (xs : List V) (P : Nat → Heap → Prop) (Src : Heap → Rg → Prop) (Sσ : List Cell → Prop) : Prop where
  frame : ∀ i h h', P i h → (∀ b ∈ wr, ∀ o, h.get? b = some o → h'.get? b = some o) → P i h'
  live : ∀ i h, P i h → ∀ b ∈ wr, ∃ o, h.get? b = some o
  carry : ∀ {h ρ h' ρ'}, Carry h ρ h' ρ' → Src h ρ → Src h' ρ'
  self : ∀ i (s : Shared) (Q : Value → Shared → Prop), P i s.heap → Q (.ref I) s → wpAny (C.M) A (pyIter (.ref I)) Q (fun _ _ => False) s
  item : ∀ (i : Nat) (x : V) (s : Shared) (ρ : Rg) (σ : List Cell), xs[i]? = some x → P i s.heap → St C s.heap ρ σ → Src s.heap ρ → Sσ σ → (∀ b ∈ wr, b ∈ ρ.f) →
    wpAny (C.M) A (pyNext (.ref I)) (fun r s₁ => ∃ v, r = some v ∧ wpAny (C.M) A (letOwnedTupleGo tgt (.ref I) v) (fun _ s₂ => ItOut C wr (P (i + 1)) s ρ v x s₂) (fun _ _ => False) s₁) (fun _ _ => False) s
  done : ∀ (s : Shared) (ρ : Rg) (σ : List Cell), P xs.length s.heap → St C s.heap ρ σ → Src s.heap ρ → Sσ σ → wpAny (C.M) A (pyNext (.ref I)) (ItEnd wr s) (fun _ _ => False) s
inductive ItAt (C : Cx) (A : Around) (tgt : Expr) (s : Shared) (ρ : Rg) (Q : List V → (List Cell → Prop) → List Cell → Prop) (it : Value) (s' : Shared) : Prop
  | mk (I : Addr) (wr : List Addr) (xs : List V) (P : Nat → Heap → Prop) (Src : Heap → Rg → Prop) (Sσ : List Cell → Prop) (hb : Heap) (ρ₁ : Rg) (σ₁ : List Cell) (h₂ : Heap) (tk₂ : Nat)
    (eI : it = .ref I) (es : s' = up s h₂ tk₂) (g : Grow s.heap ρ hb ρ₁) (S : St C hb ρ₁ σ₁) (kf : Full hb h₂) (fr : ∀ b ∈ wr, hb.get? b = none) (T : Itr C A I wr tgt xs P Src Sσ) (p0 : P 0 h₂) (sr : Src h₂ ⟨ρ₁.l, wr ++ ρ₁.f⟩) (q : Q xs Sσ σ₁)
def WI (C : Cx) (H : Nat) (env : Env) (iter tgt : Expr) (m : M) (σ : List Cell) (Q : List V → (List Cell → Prop) → List Cell → Prop) : Prop :=
  ∀ A s ρ, Pre C H env m σ A s.heap ρ → wpAny (C.M) A (eval iter env) (fun xv s₁ => wpAny (C.M) A (pyIter xv) (ItAt C A tgt s ρ Q) (fun _ _ => False) s₁) (fun _ _ => False) s
def LoopP (C : Cx) (H : Nat) (env : Env) (tgt : Expr) (body : List Stmt) (Sσ : List Cell → Prop) (Q : Fl → M → List Cell → Prop) : List V → M → List Cell → Prop
  | [], m, σ => Sσ σ ∧ Q .next m σ
  | x :: r, m, σ => Sσ σ ∧ WA C H env tgt x m σ fun m₁ σ₁ => WX C H env body m₁ σ₁ fun fl m₂ σ₂ => match fl with
    | .next => LoopP C H env tgt body Sσ Q r m₂ σ₂
    | .cont => LoopP C H env tgt body Sσ Q r m₂ σ₂
    | .brk => Q .next m₂ σ₂
    | .ret d => Q (.ret d) m₂ σ₂
section
variable {C : Cx} {H : Nat} {env : Env} {m m' : M} {σ σ' : List Cell} {A : Around} {h h' : Heap} {ρ ρ' : Rg} {s : Shared}
theorem carry_popk {wr l f : List Addr} (k : ∀ b o, b ∉ wr → h.get? b = some o → h'.get? b = some o) : Carry h ⟨l, wr ++ f⟩ h' ⟨l, f⟩ :=
  ⟨fun e => e, fun {a o} m n e => ⟨m, fun q => n (List.mem_append_right _ q), k _ _ (fun q => n (List.mem_append_left _ q)) e⟩⟩
theorem St.popk {wr l f : List Addr} (S : St C h ⟨l, wr ++ f⟩ σ) (k : ∀ b o, b ∉ wr → h.get? b = some o → h'.get? b = some o) (d : ∀ b ∈ f, b ∉ wr) : St C h' ⟨l, f⟩ σ :=
  S.move (carry_popk k) (fun a m o e => k a o (fun q => S.dj a m (List.mem_append_left _ q)) e) (fun b o e => k b o fun z => no_both (S.off b (.inr (List.mem_append_left _ z))) e)
    fun a m => have q := S.onF (List.mem_append_right wr m); ⟨q.1.keep fun o => k a o (d a m), q.2⟩
theorem FlRep.carry (c : Carry h ρ h' ρ') {fl : Flow} {fl' : Fl} (r : FlRep C h ρ fl fl') : FlRep C h' ρ' fl fl' := by
  cases fl <;> cases fl' <;> first | exact r.elim | trivial | exact Rep.carry c r
structure At (C : Cx) (env : Env) (X wr : List Addr) (P : Heap → Prop) (Src : Heap → Rg → Prop) (h0 : Heap) (ρ0 : Rg) (m : M) (σ : List Cell) (h : Heap) (ρ : Rg) : Prop where
  g : GrowC X h0 ρ0 h ρ
  S : St C h ρ σ
  F : Fm C env m h ρ
  p : P h
  sr : Src h ρ
theorem At.item {X wr : List Addr} {P P' : Heap → Prop} {Src : Heap → Rg → Prop} {h0 : Heap} {ρ0 : Rg} (a : At C env X wr P Src h0 ρ0 m σ h ρ) (cs : ∀ {h ρ h' ρ'}, Carry h ρ h' ρ' → Src h ρ → Src h' ρ') (wX : ∀ b ∈ wr, b ∈ X) (wf : ∀ b ∈ wr, b ∈ ρ.f) (no : ∀ b ∈ envW env, b ∉ wr)
    (k : ∀ b o, b ∉ wr → h.get? b = some o → h'.get? b = some o) (p : P' h') (lv : ∀ b ∈ wr, ∃ o, h'.get? b = some o) : At C env X wr P' Src h0 ρ0 m σ h' ρ :=
  ⟨⟨a.g.pre, a.g.fr, a.g.fresh, fun b o n nX e => k b o (fun z => nX (wX b z)) (a.g.kp b o n nX e)⟩, a.S.frames wf k lv, a.F.move (frames_carry wf k) (fun b q o => k b o (no b q)) a.F.off, p, cs (frames_carry wf k) a.sr⟩
theorem At.run {X Y wr : List Addr} {P P' : Heap → Prop} {Src : Heap → Rg → Prop} {h0 : Heap} {ρ0 : Rg} (a : At C env X wr P Src h0 ρ0 m σ h ρ) (cs : ∀ {h ρ h' ρ'}, Carry h ρ h' ρ' → Src h ρ → Src h' ρ') (fp : ∀ h h', P h → (∀ b ∈ wr, ∀ o, h.get? b = some o → h'.get? b = some o) → P' h')
    (Yf : ∀ b ∈ Y, b ∈ ρ.f) (YX : ∀ b ∈ Y, b ∈ X) (Xf : ∀ b ∈ X, b ∈ ρ.f) (wf : ∀ b ∈ wr, b ∈ ρ.f) (no : ∀ b ∈ Y, b ∉ wr) (g : GrowC Y h ρ h' ρ') (S : St C h' ρ' σ') (F : Fm C env m' h' ρ') : At C env X wr P' Src h0 ρ0 m' σ' h' ρ' :=
  ⟨a.g.trans (g.wide YX) fun b q z => S.dj b z (g.fr ▸ Xf b q), S, F, fp _ _ a.p fun b q o => g.kp b o (a.S.onF (wf b q)).2 fun z => no b z q, cs (g.carryX Yf) a.sr⟩
inductive ForAt (C : Cx) (H : Nat) (env : Env) (tgt : Expr) (body : List Stmt) (Sσ : List Cell → Prop) (Q : Fl → M → List Cell → Prop) (X wr : List Addr) (P : Nat → Heap → Prop) (Src : Heap → Rg → Prop) (s : Shared) (ρ0 : Rg) (xs : List V) (k : Nat) (s' : Shared) : Prop
  | mk (i : Nat) (m : M) (h : Heap) (tk : Nat) (ρ : Rg) (σ : List Cell) (e : s' = up s h tk) (ek : k = xs.length - i) (hi : i ≤ xs.length) (a : At C env X wr (P i) Src s.heap ρ0 m σ h ρ) (lp : LoopP C H env tgt body Sσ Q (xs.drop i) m σ)
theorem w1_for {iter tgt : Expr} {body : List Stmt} {pos : Pos} {Q : Fl → M → List Cell → Prop} (hfs : ∀ x, foldedSetIterable iter env x = pure x)
    (hw : WI C H env iter tgt m σ fun xs Sσ σ₁ => LoopP C H env tgt body Sσ Q xs m σ₁) : W1 C H env (.For tgt iter body [] pos) m σ Q := fun A s ρ P => by
  refine wpAny_For (mono (hw A s ρ P) fun xv s₁ h₁ => mono h₁ fun it s₂ yy => ?_) hfs
  obtain ⟨I, wr, xs, Pi, Src, Sσ, hb, ρ₁, σ₁, h₂, tk₂, rfl, rfl, g, S, kf, fr, W, p0, sr, lp⟩ := yy
  have F₁ := P.fm.grow P.st g
  have nf : ∀ b ∈ ρ₁.f, b ∉ wr := fun b m q => (S.new (fr b q)).2.2 m
  have no : ∀ b ∈ envW env, b ∉ wr := fun b q => nf b (F₁.off b q)
  have fr0 : ∀ b ∈ wr, s.heap.get? b = none := fun b q => none_of fun o e => Classical.byCases (fun z : b ∈ ρ₁.l => (S.new (fr b q)).2.1 z) fun z => no_both (fr b q) (g.keep b o (fun y => z (g.mem y)) e)
  have a0 : At C env (wr ++ envW env) wr (Pi 0) Src s.heap ⟨ρ.l, wr ++ ρ.f⟩ m σ₁ h₂ ⟨ρ₁.l, wr ++ ρ₁.f⟩ :=
    ⟨⟨g.pre, congrArg (wr ++ ·) g.fr, g.fresh, fun b o n _ e => kf _ _ (g.keep b o n e)⟩, S.pushed kf fr (W.live 0 h₂ p0), F₁.move (kf.enter fr) (fun a _ => kf a) fun a q => List.mem_append_right _ (F₁.off a q), p0, sr⟩
  -- behind the walk
  have fin : ∀ {m' σ' h' ρ' tk f fl' Pj} (h₉ : Heap), At C env (wr ++ envW env) wr Pj Src s.heap ⟨ρ.l, wr ++ ρ.f⟩ m' σ' h' ρ' → (∀ b o, b ∉ wr → h'.get? b = some o → h₉.get? b = some o) → FlRep C h' ρ' f fl' → Q fl' m' σ' → Ran C env s ρ Q f (up s h₉ tk) := fun {m' σ' h' ρ' tk f fl' Pj} h₉ a k R q => by
    have e : ρ' = ⟨ρ'.l, wr ++ ρ.f⟩ := Rg.eq_of (l' := ρ.l) a.g.fr
    have ⟨g, S, F, _, _⟩ := a
    rw [e] at S F R
    have of : ∀ b ∈ ρ.f, b ∉ wr := fun b m => nf b (by rw [show ρ₁.f = ρ.f from ‹Grow s.heap ρ hb ρ₁›.fr]; exact m)
    exact ⟨fl', m', h₉, tk, ⟨ρ'.l, ρ.f⟩, σ', rfl, ⟨g.pre, rfl, g.fresh, fun b o n n1 e => k b o (fun z => no_both (fr0 b z) e) (g.kp b o n (fun z => (List.mem_append.mp z).elim (fun z => no_both (fr0 b z) e) n1) e)⟩,
      S.popk k of, F.move (carry_popk k) (fun a q o => k a o (no a q)) P.fm.off, R.carry (carry_popk k), q⟩
  refine codeAny_forLoop_any (ForAt C H env tgt body Sσ Q (wr ++ envW env) wr Pi Src s ⟨ρ.l, wr ++ ρ.f⟩ xs)
    ?_ xs.length ⟨0, m, h₂, tk₂, _, σ₁, rfl, rfl, Nat.zero_le _, a0, lp⟩
  rintro k s' ⟨i, m₃, h₃, t₃, ρ₃, σ₃, rfl, rfl, hi, a₃, lp₃⟩
  have ef : ρ₃.f = wr ++ ρ.f := a₃.g.fr
  have wf : ∀ b ∈ wr, b ∈ ρ₃.f := fun b q => ef ▸ List.mem_append_left _ q
  have Xf : ∀ b ∈ wr ++ envW env, b ∈ ρ₃.f := fun b q => (List.mem_append.mp q).elim (wf b) (a₃.F.off b)
  rcases Nat.lt_or_eq_of_le hi with hlt | rfl
  · rw [List.drop_eq_getElem_cons hlt] at lp₃
    refine monoE (W.item i xs[i] (up s h₃ t₃) ρ₃ σ₃ (List.getElem?_eq_getElem hlt) a₃.p a₃.S a₃.sr lp₃.1 wf) fun r s₄ yy => ?_
    obtain ⟨v, rfl, hg⟩ := yy
    refine monoE hg fun _ s₅ yy => ?_
    obtain ⟨h₅, t₅, rfl, p₅, k₅, r₅⟩ := yy
    have a₅ := a₃.item W.carry (fun b q => List.mem_append_left _ q) wf no k₅ p₅ (W.live _ _ p₅)
    refine monoE (lp₃.2 A (up s h₅ t₅) ρ₃ v ⟨P.ok, P.am, a₅.S, a₅.F⟩ r₅) fun _ s₆ yy => yy.elim fun fl m₆ h₆ t₆ ρ₆ σ₆ g6 S6 F6 _ z6 => ?_
    refine monoE (z6 A (up s h₆ t₆) ρ₆ ⟨P.ok, P.am, S6, F6⟩) fun f s₇ yy => ?_
    obtain ⟨fl7, m₇, h₇, t₇, ρ₇, σ₇, rfl, g7, S7, F7, R7, z7⟩ := yy
    have a₇ := a₅.run W.carry (W.frame _) a₅.F.off (fun b q => List.mem_append_right _ q) Xf wf no (g6.trans g7 (F7.noOwn S7)) S7 F7
    have go : LoopP C H env tgt body Sσ Q (xs.drop (i + 1)) m₇ σ₇ → ∃ k', k' < xs.length - i ∧ ForAt C H env tgt body Sσ Q (wr ++ envW env) wr Pi Src s ⟨ρ.l, wr ++ ρ.f⟩ xs k' (up s h₇ t₇) := fun q =>
      ⟨xs.length - (i + 1), Nat.sub_lt_sub_left hlt (Nat.lt_succ_self i), i + 1, m₇, h₇, t₇, ρ₇, σ₇, rfl, rfl, hlt, a₇, q⟩
    have end' : ∀ f fl', FlRep C h₇ ρ₇ f fl' → Q fl' m₇ σ₇ → Ran C env s ρ Q f (up s h₇ t₇) := fun f fl' R q => fin h₇ a₇ (fun _ _ _ e => e) R q
    cases f <;> cases fl7 <;> first | exact R7.elim | exact go z7 | exact end' .next .next trivial z7 | exact end' _ _ R7 z7
  · rw [List.drop_length] at lp₃
    refine monoE (W.done (up s h₃ t₃) ρ₃ σ₃ a₃.p a₃.S a₃.sr lp₃.1) fun r s₄ yy => ?_
    obtain ⟨h₅, t₅, rfl, rfl, k₅⟩ := yy
    exact wpAny_execs_nil (fin (fl' := .next) h₅ a₃ k₅ trivial lp₃.2)
end

section
variable {C : Cx} {H : Nat} {env : Env} {m m' : M} {σ σ' : List Cell} {A : Around} {h h' : Heap} {ρ ρ' : Rg} {s : Shared}
theorem go_plain {tgt : Expr} {I : Addr} {v : Value} {T : String} {x : Value} {y : Value} {r : List Value} {Q : Unit → Shared → Prop} (ho : ∃ o, s.heap.get? I = some o ∧ o.cls = .type T ∧ o.data = .fields (x :: r).toArray)
    (nt : (["enumerate", "zip", "dict_itemiterator", "dict_reverseitemiterator", "odict_iterator", "itertools.zip_longest", "itertools.pairwise"] : List String).contains T = false) (q : Q () s) : wpAny (C.M) A (letOwnedTupleGo tgt (.ref I) v) Q (fun _ _ => False) s := by
  obtain ⟨o, ho, hc, hd⟩ := ho
  have go : ∀ (f : Obj → Sem Unit), (∀ o : Obj, o.cls = .type T → o.data = .fields (x :: r).toArray → ∃ c a b, f o = (if (false && c) = true then a else b) ∧ b = pure ()) → wpAny (C.M) A (load I >>= f) Q (fun _ _ => False) s := fun f h => by
    obtain ⟨c, a, b, e, eb⟩ := h o hc hd
    exact wpAny_bind (wpAny_load ho (e ▸ eb ▸ wpAny_pure q))
  cases tgt <;> first
    | exact wpAny_pure q
    | (cases v <;> first
        | exact wpAny_pure q
        | (refine go _ fun o hc hd => ?_
           rw [hc, hd]
           exact ⟨_, _, _, by rw [← nt], rfl⟩))
theorem keep1 {I : Addr} (k : ∀ b o, b ≠ I → h.get? b = some o → h'.get? b = some o) : ∀ b o, b ∉ [I] → h.get? b = some o → h'.get? b = some o := fun b o n => k b o fun z => n (List.mem_singleton.mpr z)
theorem live1 {I : Addr} (k : ∃ o, h.get? I = some o) : ∀ b ∈ [I], ∃ o, h.get? b = some o := fun b m => List.mem_singleton.mp m ▸ k
theorem RepL.at_ {vs : List Value} {xs : List V} (r : RepL C h ρ vs xs) {i : Nat} {x : V} (e : xs[i]? = some x) : ∃ v, vs.toArray[i]? = some v ∧ Rep C h ρ v x := (r.get e).imp fun v z => ⟨List.getElem?_toArray.trans z.1, z.2⟩
theorem RepL.end_ {vs : List Value} {xs : List V} (r : RepL C h ρ vs xs) : vs.toArray[xs.length]? = none := List.getElem?_toArray.trans (List.getElem?_eq_none (Nat.le_of_eq r.length))
theorem itr_list {I l : Addr} {tgt : Expr} {d : V} {xs : List V} (hh : A.handled = none) (nt : isTup d = false) : Itr C A I [I] tgt xs (fun i h => h.IsListIter I l i) (fun h ρ => Rep C h ρ (.ref l) d) (fun σ => Holds σ d xs) where
  self := fun i s Q p q => wpAny_pyIter_listiter p q
  frame := fun i h h' p k => p.imp fun o p => ⟨k I (.head _) _ p.1, p.2⟩
  live := fun i h p => live1 (p.imp fun o p => p.1)
  carry := fun c r => r.carry c
  item := fun i x s ρ σ hx p S R e wf => by
    obtain ⟨a, vs, k, e0, e1, r1⟩ := lst_of S R e nt
    obtain rfl := Value.ref.inj e0
    obtain ⟨v, hv, rv⟩ := r1.at_ hx
    refine wpAny_pyNext_list_item p ⟨_, e1, rfl, k, rfl⟩ hv fun h' hit hs => ⟨v, rfl, ?_⟩
    have ks := keep1 hs.extBut
    exact go_plain (y := .none) hit rfl ⟨h', s.toks, rfl, hit, ks, rv.carry (frames_carry wf ks)⟩
  done := fun s ρ σ p S R e => by
    obtain ⟨a, vs, k, e0, e1, r1⟩ := lst_of S R e nt
    obtain rfl := Value.ref.inj e0
    exact wpAny_pyNext_list_end hh p ⟨_, e1, rfl, k, rfl⟩ r1.end_ fun h' he => ⟨h', s.toks, rfl, rfl, keep1 he⟩
theorem itr_tup {I l : Addr} {tgt : Expr} {xs : List V} (hh : A.handled = none) : Itr C A I [I] tgt xs (fun i h => h.IsTupleIter I l i) (fun h ρ => Rep C h ρ (.ref l) (.tup xs)) (fun σ => Holds σ (.tup xs) xs) where
  self := fun i s Q p q => wpAny_pyIter_tupleiter p q
  frame := fun i h h' p k => p.imp fun o p => ⟨k I (.head _) _ p.1, p.2⟩
  live := fun i h p => live1 (p.imp fun o p => p.1)
  carry := fun c r => r.carry c
  item := fun i x s ρ σ hx p S R e wf => by
    obtain ⟨a, vs, k, e0, e1, r1⟩ := tup_of R
    obtain rfl := Value.ref.inj e0
    obtain ⟨v, hv, rv⟩ := r1.at_ hx
    refine wpAny_pyNext_tuple_item p ⟨_, e1, rfl, k, rfl⟩ hv fun h' hit hs => ⟨v, rfl, ?_⟩
    have ks := keep1 hs.extBut
    exact go_plain (y := .none) hit rfl ⟨h', s.toks, rfl, hit, ks, rv.carry (frames_carry wf ks)⟩
  done := fun s ρ σ p S R e => by
    obtain ⟨a, vs, k, e0, e1, r1⟩ := tup_of R
    obtain rfl := Value.ref.inj e0
    exact wpAny_pyNext_tuple_end hh p ⟨_, e1, rfl, k, rfl⟩ r1.end_ fun h' he => ⟨h', s.toks, rfl, rfl, keep1 he⟩
theorem wi_seq {iter tgt : Expr} {Q : List V → (List Cell → Prop) → List Cell → Prop} (h : WL C H env iter m σ fun d σ₁ => ∃ xs, Holds σ₁ d xs ∧ Q xs (fun σ => Holds σ d xs) σ₁) : WI C H env iter tgt m σ Q := fun A s ρ P => by
  refine mono (h A s ρ P) fun v s₁ yy => yy.elim fun d h₁ t₁ ρ₁ σ₁ g S R zz => ?_
  obtain ⟨xs, hx, z⟩ := zz
  have fr : ∀ b ∈ [h₁.objs.size], h₁.get? b = none := fun b m => List.mem_singleton.mp m ▸ none_of_size (Nat.le_refl _)
  rcases @tup_or d with ⟨l', rfl⟩ | nt
  · obtain rfl : l' = xs := hx
    obtain ⟨a, vs, k, rfl, e1, r1⟩ := tup_of R
    exact wpAny_pyIter_tuple (s := (up s h₁ t₁)) ⟨_, e1, rfl, k, rfl⟩ ⟨h₁.objs.size, [h₁.objs.size], _, _, _, _, h₁, ρ₁, σ₁, _, t₁, rfl, rfl, g, S, Full.push _, fr, itr_tup P.am.hd, ⟨_, Heap.get?_push_size _ rfl, rfl, rfl⟩, R.carry ((Full.push _).enter fr), z⟩
  · obtain ⟨a, vs, k, rfl, e1, r1⟩ := lst_of S R hx nt
    exact wpAny_pyIter_list (s := (up s h₁ t₁)) ⟨_, e1, rfl, k, rfl⟩ ⟨h₁.objs.size, [h₁.objs.size], xs, _, _, _, h₁, ρ₁, σ₁, _, t₁, rfl, rfl, g, S, Full.push _, fr, itr_list P.am.hd nt, ⟨_, Heap.get?_push_size _ rfl, rfl, rfl⟩, R.carry ((Full.push _).enter fr), z⟩
def upTo (n : Nat) : List V := (List.range n).map fun (k : Nat) => .int k
theorem upTo_get {n i : Nat} {x : V} (e : (upTo n)[i]? = some x) : i < n ∧ x = .int i := by
  unfold upTo at e
  obtain ⟨k, q, e⟩ := Option.map_eq_some_iff.mp (List.getElem?_map.symm.trans e)
  obtain ⟨l, z⟩ := List.getElem?_eq_some_iff.mp q
  rw [List.getElem_range] at z
  rw [List.length_range] at l
  exact ⟨l, z ▸ e.symm⟩
theorem upTo_length {n : Nat} : (upTo n).length = n := (List.length_map _).trans List.length_range
theorem sub_step {n : Int} {i : Nat} : n - ((i + 1 : Nat) : Int) = n - i - 1 := by omega
theorem itr_range {I : Addr} {tgt : Expr} {n : Nat} (hh : A.handled = none) : Itr C A I [I] tgt (upTo n) (fun i h => i ≤ n ∧ IsRangeIter h I i ((n : Int) - i) 1) (fun _ _ => True) (fun _ => True) where
  self := fun i s Q p q => wpAny_pyIter_rangeiter p.2 q
  frame := fun i h h' p k => ⟨p.1, k I (.head _) _ p.2⟩
  live := fun i h p => live1 ⟨_, p.2⟩
  carry := fun c r => r
  item := fun i x s ρ σ hx p S R e wf => by
    obtain ⟨l, rfl⟩ := upTo_get hx
    refine wpAny_pyNext_range_item p.2 (Int.sub_pos_of_lt (Int.ofNat_lt.mpr l)) fun h' hit hs => ⟨_, rfl, ?_⟩
    exact go_plain (y := .none) (T := "range_iterator") ⟨_, hit, rfl, rfl⟩ rfl ⟨h', s.toks + 1, rfl, ⟨l, by rw [sub_step]; exact hit⟩, keep1 hs.extBut, .int _ _⟩
  done := fun s ρ σ p S R e => by
    rw [upTo_length] at p
    exact wpAny_pyNext_range_end hh p.2 (Int.le_of_eq (Int.sub_self _)) fun h' he => ⟨h', s.toks, rfl, rfl, keep1 he⟩
theorem range_size (n : Nat) : Builtin.Range.rangeSize 0 n 1 = (n : Int) - ((0 : Nat) : Int) := by rw [rangeSize_one]; split <;> omega
theorem range_small {n : Nat} (l : n ≤ 1000000) : Builtin.Range.small 0 n 1 = true := small_one (by decide) (by decide) (Int.le_trans (by decide) (Int.natCast_nonneg n)) (Int.lt_of_le_of_lt (Int.ofNat_le.mpr l) (by decide))
theorem wi_range {fp pos : Pos} {e tgt : Expr} {Q : List V → (List Cell → Prop) → List Cell → Prop} (o : Out env "range") (g : Bui C "range" (.type "range")) (hp : (starEach [e] env).any (·.1) = false)
    (h : WLs C H env [e] m σ fun ds σ₁ => ∃ n : Nat, ds = [.int n] ∧ n ≤ 1000000 ∧ Q (upTo n) (fun _ => True) σ₁) : WI C H env (.Call (.Name "range" fp) [e] [] pos) tgt m σ Q := fun A s ρ P => by
  show wpAny _ A (eval (.Name "range" fp) env >>= fun v => callWith pos v [] (backTo pos (starEach [e] env)) (backToKw pos (keywordEach [] env))) _ _ s
  refine wpAny_bind (bui_name P o g (callWith_machine rfl hp (mono (h A s ρ pos P) fun vs s₁ yy => yy.elim fun ds h₁ t₁ ρ₁ σ₁ g S R zz => ?_)))
  obtain ⟨n, rfl, ln, z⟩ := zz
  obtain ⟨v, rfl, r⟩ := R.one
  obtain ⟨tt, rfl⟩ := r.sees
  refine call_range_1 (wpAny_pyIter_range (r := h₁.objs.size) (Heap.get?_push_size _ rfl) (range_small ln) ?_)
  generalize hR : h₁.push { cls := .type "range", data := .fields #[.int 0 t₁, .int (n : Int) tt, .int 1 (t₁ + 1)] } = hr
  have sz : hr.objs.size = h₁.objs.size + 1 := hR ▸ Heap.size_push ..
  have k1 : Full h₁ hr := hR ▸ Full.push _
  rw [range_size]
  refine ⟨hr.objs.size, [hr.objs.size], upTo n, _, _, _, h₁, ρ₁, σ₁, _, _, rfl, rfl, g, S, fun b o e => Full.push _ _ _ (k1 _ _ e), fun b m => ?_, itr_range P.am.hd, ⟨Nat.zero_le _, Heap.get?_push_size _ rfl⟩, trivial, z⟩
  rw [List.mem_singleton.mp m, sz]
  exact none_of_size (Nat.le_succ _)
def numd : Nat → List V → List V
  | _, [] => []
  | i, x :: r => .tup [.int i, x] :: numd (i + 1) r
theorem numd_get : ∀ {xs : List V} {j i : Nat} {y : V}, (numd j xs)[i]? = some y → ∃ x, xs[i]? = some x ∧ y = .tup [.int ((j + i : Nat) : Int), x]
  | [], j, i, y, e => nomatch e
  | x :: r, j, 0, y, e => ⟨x, rfl, (Option.some.inj e).symm⟩
  | x :: r, j, i + 1, y, e => by
    obtain ⟨x', e1, e2⟩ := numd_get (xs := r) (j := j + 1) (i := i) e
    exact ⟨x', e1, by rw [e2, Nat.add_right_comm]; rfl⟩
theorem numd_length : ∀ {xs : List V} {j : Nat}, (numd j xs).length = xs.length
  | [], _ => rfl
  | _ :: r, j => congrArg Nat.succ numd_length
theorem itr_enum {e it l : Addr} {es : List Expr} {k0 : Nat} {tp : Pos} {d : V} {xs : List V} (hh : A.handled = none) (nei : e ≠ it) (nt : isTup d = false) :
    Itr C A e [e, it] (.Tuple es k0 tp) (numd 0 xs) (fun i h => ∃ old, IsEnum h e it (i : Nat) old ∧ h.IsListIter it l i) (fun h ρ => Rep C h ρ (.ref l) d) (fun σ => Holds σ d xs) where
  self := fun i s Q p q => by obtain ⟨old, pe, _⟩ := p; exact wpAny_pyIter_enum pe q
  frame := fun i h h' p k => by obtain ⟨old, pe, o, q, r⟩ := p; exact ⟨old, k e (.head _) _ pe, o, k it (.tail _ (.head _)) _ q, r⟩
  live := fun i h p b m => by
    obtain ⟨old, pe, o, q, r⟩ := p
    exact (List.mem_cons.mp m).elim (fun z => ⟨_, z ▸ pe⟩) fun z => ⟨_, List.mem_singleton.mp z ▸ q⟩
  carry := fun c r => r.carry c
  item := fun i x s ρ σ hx p S R e' wf => by
    obtain ⟨a, vs, k, e0, e1, r1⟩ := lst_of S R e' nt
    obtain rfl := Value.ref.inj e0
    obtain ⟨y, hy, rfl⟩ := numd_get hx
    obtain ⟨v, hv, rv⟩ := r1.at_ hy
    obtain ⟨old, pe, pi⟩ := p
    refine wpAny_pyNext_enum_item pe pi ⟨_, e1, rfl, k, rfl⟩ hv nei fun h' heo hit ht hsz hk => ⟨_, rfl, ?_⟩
    refine wpAny_letOwnedTupleGo_enum heo fun h₂ he₂ hs₂ => ?_
    have ks : ∀ b o, b ∉ [e, it] → s.heap.get? b = some o → h₂.get? b = some o := fun b o n q =>
      have n1 : b ≠ e := fun z => n (List.mem_cons.mpr (.inl z))
      hs₂.extBut b o n1 (hk b o n1 (fun z => n (List.mem_cons.mpr (.inr (List.mem_singleton.mpr z)))) q)
    refine ⟨h₂, s.toks + 1, rfl, ⟨v, he₂, hit.extBut hs₂.extBut nei.symm⟩, ks, .tup (n := 0) (vs := [.int (i : Int) s.toks, v]) S.fresh_size.1 S.fresh_size.2 (hs₂.extBut _ _ (Nat.ne_of_gt (Heap.lt_size pe)) ht) ?_⟩
    rw [Nat.zero_add]
    exact .cons (.int _ _) (.cons (rv.carry (frames_carry wf ks)) .nil)
  done := fun s ρ σ p S R e' => by
    obtain ⟨a, vs, k, e0, e1, r1⟩ := lst_of S R e' nt
    obtain rfl := Value.ref.inj e0
    obtain ⟨old, pe, pi⟩ := p
    rw [numd_length] at pe pi
    exact wpAny_pyNext_enum_end hh pe pi ⟨_, e1, rfl, k, rfl⟩ r1.end_ fun h' he => ⟨h', s.toks, rfl, rfl, fun b o n q => he b o (fun z => n (List.mem_cons.mpr (.inr (List.mem_singleton.mpr z)))) q⟩
theorem wi_enum {fp pos tp : Pos} {e : Expr} {es : List Expr} {k0 : Nat} {Q : List V → (List Cell → Prop) → List Cell → Prop} (o : Out env "enumerate") (g : Bui C "enumerate" (.type "enumerate")) (hp : (starEach [e] env).any (·.1) = false)
    (h : WLs C H env [e] m σ fun ds σ₁ => ∃ d xs, ds = [d] ∧ Holds σ₁ d xs ∧ (isTup d = false) ∧ Q (numd 0 xs) (fun σ => Holds σ d xs) σ₁) : WI C H env (.Call (.Name "enumerate" fp) [e] [] pos) (.Tuple es k0 tp) m σ Q := fun A s ρ P => by
  show wpAny _ A (eval (.Name "enumerate" fp) env >>= fun v => callWith pos v [] (backTo pos (starEach [e] env)) (backToKw pos (keywordEach [] env))) _ _ s
  refine wpAny_bind (bui_name P o g (callWith_machine rfl hp (mono (h A s ρ pos P) fun vs s₁ yy => yy.elim fun ds h₁ t₁ ρ₁ σ₁ g S R zz => ?_)))
  obtain ⟨d, xs, rfl, hx, nt, z⟩ := zz
  obtain ⟨v, rfl, r⟩ := R.one
  obtain ⟨a, vs, k, rfl, e1, r1⟩ := lst_of S r hx nt
  refine call_enumerate_list (s := (up s h₁ t₁)) ⟨_, e1, rfl, k, rfl⟩ fun h' he hi hsz hk => wpAny_pyIter_enum (s := (up s h' t₁)) he ?_
  have fr : ∀ b ∈ [h₁.objs.size + 1, h₁.objs.size], h₁.get? b = none := fun b m => (List.mem_cons.mp m).elim (fun q => q ▸ none_of_size (Nat.le_succ _)) fun q => List.mem_singleton.mp q ▸ none_of_size (Nat.le_refl _)
  exact ⟨h₁.objs.size + 1, [h₁.objs.size + 1, h₁.objs.size], numd 0 xs, _, _, _, h₁, ρ₁, σ₁, h', t₁, rfl, rfl, g, S, hk, fr, itr_enum P.am.hd (Nat.succ_ne_self _) nt, ⟨.none, he, hi⟩, r.carry (Full.enter hk fr), z⟩
end

def WAl (C : Cx) (H : Nat) (env : Env) (W : List Addr) (t : Expr) (d : V) (m : M) (σ : List Cell) (Q : M → Prop) : Prop :=
  ∀ A s ρ v, Pre C H env m σ A s.heap ρ → Rep C s.heap ρ v d → wpAny (C.M) A (assign t env v) (fun _ s' => LRan C env W s ρ Q s') (fun _ _ => False) s
def WALs (C : Cx) (H : Nat) (env : Env) (W : List Addr) (σ : List Cell) (Q : M → Prop) : List Expr → List V → M → Prop
  | [], [], m => Q m
  | t :: ts, d :: ds, m => WAl C H env W t d m σ fun m' => WALs C H env W σ Q ts ds m'
  | _, _, _ => False
def WAs (C : Cx) (H : Nat) (env : Env) (Q : M → List Cell → Prop) : List Expr → List V → M → List Cell → Prop
  | [], [], m, σ => Q m σ
  | t :: ts, d :: ds, m, σ => WA C H env t d m σ fun m' σ' => WAs C H env Q ts ds m' σ'
  | _, _, _, _ => False
def Ifs (C : Cx) (H : Nat) (env : Env) : List Expr → M → List Cell → (Bool → List Cell → Prop) → Prop
  | [], _, σ, Q => Q true σ
  | c :: r, m, σ, Q => WB C H env c m σ fun b σ' => if b = true then Ifs C H env r m σ' Q else Q false σ'
abbrev Kt := M → List Cell → List V → Prop
def CLoop (C : Cx) (H : Nat) (env : Env) (W : List Addr) (tgt : Expr) (ifs : List Expr) (inner : M → List Cell → List V → Kt → Prop) (Sσ : List Cell → Prop) : List V → M → List Cell → List V → Kt → Prop
  | [], m, σ, acc, k => Sσ σ ∧ k m σ acc
  | x :: r, m, σ, acc, k => Sσ σ ∧ WAl C H env W tgt x m σ fun m₁ => Ifs C H env ifs m₁ σ fun ok σ₁ => if ok = true then inner m₁ σ₁ acc (fun m₂ σ₂ acc₂ => CLoop C H env W tgt ifs inner Sσ r m₂ σ₂ acc₂ k) else CLoop C H env W tgt ifs inner Sσ r m₁ σ₁ acc k
def AccAt (C : Cx) (h : Heap) (ρ : Rg) (D : Addr) (acc : List V) : Prop := ∃ vs k, h.get? D = some (lstO vs k) ∧ RepL C h ρ vs acc
inductive CRan (C : Cx) (env : Env) (D : Addr) (X : List Addr) (s : Shared) (ρ : Rg) (k : Kt) (s' : Shared) : Prop
  | mk (m' : M) (σ' : List Cell) (acc' : List V) (h' : Heap) (tk : Nat) (ρ' : Rg) (e : s' = up s h' tk) (g : GrowC X s.heap ρ h' ρ') (S : St C h' ρ' σ') (F : Fm C env m' h' ρ') (a : AccAt C h' ρ' D acc') (q : k m' σ' acc')
def AftOk (C : Cx) (H : Nat) (env : Env) (W : List Addr) (A : Around) (D : Addr) (after : Sem Unit) (inner : M → List Cell → List V → Kt → Prop) : Prop :=
  ∀ (s : Shared) ρ m σ acc k, Pre C H env m σ A s.heap ρ → D ∈ ρ.f → AccAt C s.heap ρ D acc → inner m σ acc k → wpAny (C.M) A after (fun _ s' => CRan C env D (D :: W) s ρ k s') (fun _ _ => False) s
section
variable {C : Cx} {H : Nat} {env : Env} {m m' : M} {σ σ' : List Cell} {A : Around} {h h' : Heap} {ρ ρ' : Rg} {s : Shared}
theorem wal_name {W : List Addr} {x : Str} {pos : Pos} {d : V} {Q : M → Prop} (k : Own env W x) (q : Q ((x, d) :: m)) : WAl C H env W (.Name x pos) d m σ Q := fun A s ρ v P R =>
  wpAny_assign_Name (sto_own k q P R)
theorem assign_cons {t : Expr} {ts : List Expr} {v : Value} {vs : List Value} {Q : Unit → Shared → Prop} (h : wpAny (C.M) A (assign t env v) (fun _ s₁ => wpAny (C.M) A (assignInOrder (ts.map fun t => assign t env) vs) Q (fun _ _ => False) s₁) (fun _ _ => False) s) :
    wpAny (C.M) A (assignInOrder ((t :: ts).map fun t => assign t env) (v :: vs)) Q (fun _ _ => False) s := wpAny_bind (wpAny_holding h)
theorem wal_each {W : List Addr} (hW : OwnW env W) {Q : M → Prop} : ∀ (es : List Expr) (vs : List Value) (ds : List V) (m : M) (s : Shared), Pre C H env m σ A s.heap ρ → RepL C s.heap ρ vs ds → WALs C H env W σ Q es ds m →
    wpAny (C.M) A (assignInOrder (es.map fun t => assign t env) vs) (fun _ s' => LRan C env W s ρ Q s') (fun _ _ => False) s
  | [], vs, [], m, s, P, R, w => by
    obtain rfl : vs = [] := R.seen
    exact wpAny_pure ⟨m, s.heap, s.toks, rfl, fun _ _ _ e => e, P.fm, w⟩
  | t :: ts, vs, d :: ds, m, s, P, R, w => by
    obtain ⟨v, vs, rfl, r, rs⟩ := R.seen
    refine assign_cons (mono (w A s ρ _ P r) fun _ s₁ yy => ?_)
    obtain ⟨m₁, h₁, t₁, rfl, k, F, z⟩ := yy
    refine mono (wal_each hW ts _ ds m₁ (up s h₁ t₁) ⟨P.ok, P.am, P.st.locals hW F k, F⟩ (rs.carry (locals_carry hW F k)) z) fun _ s₂ yy => ?_
    obtain ⟨m₂, h₂, t₂, e, k', F', z'⟩ := yy
    exact ⟨m₂, h₂, t₂, e, fun b o n q => k' b o n (k b o n q), F', z'⟩
  | [], _, _ :: _, _, _, _, _, w => w.elim
  | _ :: _, _, [], _, _, _, _, w => w.elim
theorem wa_each {Q : M → List Cell → Prop} : ∀ (es : List Expr) (vs : List Value) (ds : List V) (m : M) (σ : List Cell) (s : Shared) (ρ : Rg), Pre C H env m σ A s.heap ρ → RepL C s.heap ρ vs ds → WAs C H env Q es ds m σ →
    wpAny (C.M) A (assignInOrder (es.map fun t => assign t env) vs) (fun _ s' => Ran C env s ρ (fun _ m σ => Q m σ) .next s') (fun _ _ => False) s
  | [], vs, [], m, σ, s, ρ, P, R, w => by
    obtain rfl : vs = [] := R.seen
    exact wpAny_pure (Ran.here P w)
  | t :: ts, vs, d :: ds, m, σ, s, ρ, P, R, w => by
    obtain ⟨v, vs, rfl, r, rs⟩ := R.seen
    refine assign_cons (mono (w A s ρ _ P r) fun _ s₁ yy => yy.elim fun fl m₁ h₁ t₁ ρ₁ σ₁ g S F _ z => ?_)
    exact mono (wa_each ts _ ds m₁ σ₁ (up s h₁ t₁) ρ₁ ⟨P.ok, P.am, S, F⟩ (rs.carry (g.carryX P.fm.off)) z) fun _ s₂ x => x.trans g
  | [], _, _ :: _, _, _, _, _, _, _, w => w.elim
  | _ :: _, _, [], _, _, _, _, _, _, w => w.elim
theorem no_star (es : List Expr) : (es.map fun t => (false, assign t env)).findIdx? (·.1) = none := List.findIdx?_eq_none_iff.mpr fun x m => by
  obtain ⟨t, _, rfl⟩ := List.mem_map.mp m
  rfl
theorem tup_apart {es : List Expr} {k : Nat} {pos : Pos} {ds : List V} {v : Value} {Q : Unit → Shared → Prop} (hl : es.length = ds.length) (he : assignEach es env = es.map fun t => (false, assign t env)) (P : Pre C H env m σ A s.heap ρ) (R : Rep C s.heap ρ v (.tup ds))
    (q : ∀ (vs : List Value) (h' : Heap), Full s.heap h' → RepL C h' ρ vs ds → Pre C H env m σ A h' ρ → wpAny (C.M) A (assignInOrder (es.map fun t => assign t env) vs) Q (fun _ _ => False) (up s h' s.toks)) : wpAny (C.M) A (assign (.Tuple es k pos) env v) Q (fun _ _ => False) s := by
  obtain ⟨a, vs, kk, rfl, e1, r1⟩ := tup_of R
  refine wpAny_assign_Tuple P.am.hd ⟨_, e1, rfl, kk, rfl⟩ (by rw [he, List.length_map]; exact hl.trans r1.size.symm) (he ▸ no_star es) fun h' hx => ?_
  have kf : Full s.heap h' := fun b o e => hx b o (Nat.ne_of_lt (Heap.lt_size e)) e
  rw [he, List.map_map]
  exact q vs h' kf (r1.grow kf.grow) (P.grow kf.grow (P.st.full kf))
theorem wal_tuple {W : List Addr} (hW : OwnW env W) {es : List Expr} {k : Nat} {pos : Pos} {ds : List V} {Q : M → Prop} (hl : es.length = ds.length) (he : assignEach es env = es.map fun t => (false, assign t env)) (w : WALs C H env W σ Q es ds m) : WAl C H env W (.Tuple es k pos) (.tup ds) m σ Q := fun A s ρ v P R =>
  tup_apart hl he P R fun vs h' kf r P' => mono (wal_each hW es _ ds m (up s h' s.toks) P' r w) fun _ s₂ yy => by
    obtain ⟨m₂, h₂, t₂, e, k', F', z'⟩ := yy
    exact ⟨m₂, h₂, t₂, e, fun b o n q => k' b o n (kf b o q), F', z'⟩
theorem wa_tuple {es : List Expr} {k : Nat} {pos : Pos} {ds : List V} {Q : M → List Cell → Prop} (hl : es.length = ds.length) (he : assignEach es env = es.map fun t => (false, assign t env)) (w : WAs C H env Q es ds m σ) : WA C H env (.Tuple es k pos) (.tup ds) m σ Q := fun A s ρ v P R =>
  tup_apart hl he P R fun vs h' kf r P' => mono (wa_each es _ ds m σ (up s h' s.toks) ρ P' r w) fun _ s₂ x => x.behind (tk := s.toks) kf.grow
theorem ifs_false : ∀ (ifs : List Expr) (s : Shared) (Q : Bool → Shared → Prop), Q false s →
    wpAny (C.M) A (forIn ifs false fun c r => if r = true then do let ok ← isTrue c env (eval c env); pure (ForInStep.yield ok) else pure (ForInStep.yield r)) Q (fun _ _ => False) s
  | [], s, Q, q => wpAny_pure q
  | c :: r, s, Q, q => by
    rw [List.forIn_cons]
    exact wpAny_bind (wpAny_pure (ifs_false r s Q q))
theorem ifs_ok {Q : Bool → List Cell → Prop} : ∀ (ifs : List Expr) (σ : List Cell) (s : Shared) (ρ : Rg), Pre C H env m σ A s.heap ρ → Ifs C H env ifs m σ Q →
    wpAny (C.M) A (forIn ifs true fun c r => if r = true then do let ok ← isTrue c env (eval c env); pure (ForInStep.yield ok) else pure (ForInStep.yield r)) (GotB C s ρ Q) (fun _ _ => False) s
  | [], σ, s, ρ, P, w => wpAny_pure (.here P.st w)
  | c :: r, σ, s, ρ, P, w => by
    rw [List.forIn_cons]
    refine wpAny_bind (wpAny_bind (mono (w A s ρ P) fun b s₁ yy => yy.elim fun h₁ t₁ ρ₁ σ₁ g S z => ?_))
    cases b with
    | true => exact wpAny_pure (mono (ifs_ok r σ₁ (up s h₁ t₁) ρ₁ (P.grow g S) z) fun b s₂ x => x.trans g)
    | false => exact wpAny_pure (ifs_false r _ _ ⟨h₁, t₁, ρ₁, σ₁, rfl, g, S, z⟩)
theorem AccAt.carry {D : Addr} {acc : List V} (x : AccAt C h ρ D acc) (c : Carry h ρ h' ρ') (k : ∀ o, h.get? D = some o → h'.get? D = some o) : AccAt C h' ρ' D acc := by
  obtain ⟨vs, n, e, r⟩ := x; exact ⟨vs, n, k _ e, r.carry c⟩
theorem AccAt.ne {D : Addr} {acc : List V} (x : AccAt C h ρ D acc) (F : Fm C env m h ρ) : D ∉ envW env := fun q => by
  obtain ⟨vs, n, e, r⟩ := x
  rcases List.mem_cons.mp q with z | q
  · obtain ⟨ml, ⟨o, es, ep, ho, hd, _⟩, _⟩ := F.ns
    rw [← z, e] at ho
    exact nomatch (congrArg Obj.data (Option.some.inj ho)).trans hd
  · obtain ⟨p, hp, z⟩ := List.mem_map.mp q
    obtain ⟨u, o, ho, hd⟩ := F.cs p hp
    have ho : h.get? p.2 = some o := ho
    rw [z, e] at ho
    exact nomatch (congrArg Obj.data (Option.some.inj ho)).trans hd
inductive CAt (C : Cx) (H : Nat) (env : Env) (W : List Addr) (tgt : Expr) (ifs : List Expr) (inner : M → List Cell → List V → Kt → Prop) (Sσ : List Cell → Prop) (D : Addr) (X wr : List Addr) (P : Nat → Heap → Prop) (Src : Heap → Rg → Prop) (s : Shared) (ρ0 : Rg) (xs : List V) (k : Kt) (n : Nat) (s' : Shared) : Prop
  | mk (i : Nat) (m : M) (σ : List Cell) (acc : List V) (h : Heap) (tk : Nat) (ρ : Rg) (e : s' = up s h tk) (en : n = xs.length + 1 - i) (hi : i ≤ xs.length) (a : At C env X wr (P i) Src s.heap ρ0 m σ h ρ) (ac : AccAt C h ρ D acc) (lp : CLoop C H env W tgt ifs inner Sσ (xs.drop i) m σ acc k)
theorem comp_loop {l0 f0 : List Addr} {elt : Expr} {gens : List Comprehension} {scope : Scope} {pos ip : Pos} {depth : Nat} {I D : Addr} {tgt : Expr} {ifs : List Expr} {after : Sem Unit} {inner : M → List Cell → List V → Kt → Prop} {wr : List Addr} {xs : List V} {Pi : Nat → Heap → Prop} {Src : Heap → Rg → Prop} {Sσ : List Cell → Prop}
    (hturn : compTurn (.ListComp elt gens scope pos) depth (.ref I) (.ref D) env = (do
      standAt ip
      match ← pyNext (.ref I) with
      | none => pure (.done .next)
      | some v =>
        letOwnedTupleGo tgt (.ref I) v
        assign tgt env v
        let mut ok := true
        for c in ifs do
          if ok then ok ← isTrue c env (eval c env)
        if ok then
          after
        again (.compLoop (.ListComp elt gens scope pos) depth (.ref I) (.ref D) env)))
    {W : List Addr} (hW : OwnW env W) (hDW : D ∉ W) (T : Itr C A I wr tgt xs Pi Src Sσ) (aft : AftOk C H env W A D after inner) {acc : List V} {k : Kt}
    (P : Pre C H env m σ A s.heap ⟨l0, wr ++ f0⟩) (hE : ∀ b ∈ envW env, b ∈ f0) (hD : D ∈ f0) (hdj : ∀ b ∈ f0, b ∉ wr) (p0 : Pi 0 s.heap) (sr : Src s.heap ⟨l0, wr ++ f0⟩) (ha : AccAt C s.heap ⟨l0, wr ++ f0⟩ D acc) (lp : CLoop C H env W tgt ifs inner Sσ xs m σ acc k) :
    codeAny (C.M) A (.compLoop (.ListComp elt gens scope pos) depth (.ref I) (.ref D) env) (fun r s' => r = .ok .next ∧ CRan C env D (wr ++ D :: W) s ⟨l0, f0⟩ k s') s := by
  have no : ∀ b ∈ envW env, b ∉ wr := fun b q => hdj b (hE b q)
  have Yf : ∀ b ∈ D :: W, b ∈ f0 := fun b q => (List.mem_cons.mp q).elim (fun q => q ▸ hD) fun q => hE b (hW b q)
  refine codeAny_loop rfl (CAt C H env W tgt ifs inner Sσ D (wr ++ D :: W) wr Pi Src s ⟨l0, wr ++ f0⟩ xs k) ?_ (xs.length + 1) ⟨0, m, σ, acc, s.heap, s.toks, _, rfl, rfl, Nat.zero_le _, ⟨.refl, P.st, P.fm, p0, sr⟩, ha, lp⟩
  rintro n s' ⟨i, m₃, σ₃, acc₃, h₃, t₃, ρ₃, rfl, rfl, hi, a₃, ac₃, lp₃⟩
  show wpAny _ A ((compTurn (.ListComp elt gens scope pos) depth (.ref I) (.ref D) env).onRaise (fun x => do noteFrame x env; theTreesLotGoes x)) _ _ _
  refine wpAny_noted ?_
  rw [hturn]
  have ef : ρ₃.f = wr ++ f0 := a₃.g.fr
  have wf : ∀ b ∈ wr, b ∈ ρ₃.f := fun b q => ef ▸ List.mem_append_left _ q
  have f0f : ∀ b ∈ f0, b ∈ ρ₃.f := fun b q => ef ▸ List.mem_append_right _ q
  have Xf : ∀ b ∈ wr ++ D :: W, b ∈ ρ₃.f := fun b q => (List.mem_append.mp q).elim (wf b) fun q => f0f b (Yf b q)
  refine wpAny_bind (wpAny_standAt (wpAny_bind ?_))
  rcases Nat.lt_or_eq_of_le hi with hlt | rfl
  · rw [List.drop_eq_getElem_cons hlt] at lp₃
    refine monoE (T.item i xs[i] (up s h₃ t₃) ρ₃ σ₃ (List.getElem?_eq_getElem hlt) a₃.p a₃.S a₃.sr lp₃.1 wf) fun r s₄ yy => ?_
    obtain ⟨v, rfl, hg⟩ := yy
    refine wpAny_bind (monoE hg fun _ s₅ yy => ?_)
    obtain ⟨h₅, t₅, rfl, p₅, k₅, r₅⟩ := yy
    have a₅ := a₃.item T.carry (fun b q => List.mem_append_left _ q) wf no k₅ p₅ (T.live _ _ p₅)
    have ac₅ := ac₃.carry (frames_carry wf k₅) fun o => k₅ D o (hdj D hD)
    refine wpAny_bind (monoE (lp₃.2 A (up s h₅ t₅) ρ₃ v ⟨P.ok, P.am, a₅.S, a₅.F⟩ r₅) fun _ s₆ yy => ?_)
    obtain ⟨m₆, h₆, t₆, rfl, k₆, F₆, z₆⟩ := yy
    have a₆ := a₅.run (Y := W) T.carry (T.frame _) (fun b q => f0f b (Yf b (.tail _ q))) (fun b q => List.mem_append_right _ (.tail _ q)) Xf wf (fun b q => hdj b (Yf b (.tail _ q))) ⟨⟨[], (List.append_nil _).symm⟩, rfl, fun _ m n => absurd m n, fun b o _ n => k₆ b o n⟩ (a₅.S.locals hW F₆ k₆) F₆
    have ac₆ := ac₅.carry (locals_carry hW F₆ k₆) fun o => k₆ D o hDW
    refine wpAny_bind (monoE (ifs_ok ifs σ₃ (up s h₆ t₆) ρ₃ ⟨P.ok, P.am, a₆.S, a₆.F⟩ z₆) fun ok s₇ yy => yy.elim fun h₇ t₇ ρ₇ σ₇ g7 S7 z7 => ?_)
    have a7 := a₆.run (Y := []) T.carry (T.frame _) (fun _ q => nomatch q) (fun _ q => nomatch q) Xf wf (fun _ q => nomatch q) g7 S7 (a₆.F.grow a₆.S g7)
    have ac7 := ac₆.carry g7.carry fun o => g7.keep D o (a₆.S.onF (f0f D hD)).2
    have f7 : ∀ b, b ∈ ρ₃.f → b ∈ ρ₇.f := fun b q => by rw [show ρ₇.f = ρ₃.f from g7.fr]; exact q
    have lt : xs.length + 1 - (i + 1) < xs.length + 1 - i := Nat.sub_lt_sub_left (Nat.lt_succ_of_lt hlt) (Nat.lt_succ_self i)
    cases ok with
    | false => exact wpAny_pure ⟨rfl, _, lt, i + 1, m₆, σ₇, acc₃, h₇, t₇, ρ₇, rfl, rfl, hlt, a7, ac7, z7⟩
    | true =>
      refine wpAny_bind (monoE (aft (up s h₇ t₇) ρ₇ m₆ σ₇ acc₃ _ ⟨P.ok, P.am, S7, a7.F⟩ (f7 D (f0f D hD)) ac7 z7) fun _ s₈ yy => ?_)
      obtain ⟨m₈, σ₈, acc₈, h₈, t₈, ρ₈, rfl, g8, S8, F8, ac8, z8⟩ := yy
      have a8 := a7.run (Y := D :: W) T.carry (T.frame _) (fun b q => f7 b (f0f b (Yf b q))) (fun b q => List.mem_append_right _ q) (fun b q => f7 b (Xf b q)) (fun b q => f7 b (wf b q)) (fun b q => hdj b (Yf b q)) g8 S8 F8
      exact wpAny_pure ⟨rfl, _, lt, i + 1, m₈, σ₈, acc₈, h₈, t₈, ρ₈, rfl, rfl, hlt, a8, ac8, z8⟩
  · rw [List.drop_length] at lp₃
    refine monoE (T.done (up s h₃ t₃) ρ₃ σ₃ a₃.p a₃.S a₃.sr lp₃.1) fun r s₄ yy => ?_
    obtain ⟨h₅, t₅, rfl, rfl, k₅⟩ := yy
    have el : ρ₃ = ⟨ρ₃.l, wr ++ f0⟩ := Rg.eq_of (l' := l0) ef
    have ⟨g, S, F, _, _⟩ := a₃
    rw [el] at S F ac₃
    exact wpAny_pure ⟨rfl, m₃, σ₃, acc₃, h₅, t₅, ⟨ρ₃.l, f0⟩, rfl, ⟨g.pre, rfl, g.fresh, fun b o n1 n2 e => k₅ b o (fun z => n2 (List.mem_append_left _ z)) (g.kp b o n1 n2 e)⟩, S.popk k₅ hdj, F.move (carry_popk k₅) (fun a q o => k₅ a o (no a q)) hE, ac₃.carry (carry_popk k₅) (fun o => k₅ D o (hdj D hD)), lp₃.2⟩
end

abbrev Nk := List (Str × NameKind)
structure Knows (names : Nk) (env : Env) : Prop where
  fn : env.scope.kind = .function
  col : ∀ x, env.kindOf x = some .local → names.lookup x = some .local
  loc : ∀ x, names.lookup x = some .local → env.kindOf x = some .local
  cel : ∀ x, names.lookup x = some .cell → env.kindOf x = some .cell ∧ (env.cells.lookup x).isSome = true
  fre : ∀ x, names.lookup x = some .free → (env.kindOf x = some .cell ∨ env.kindOf x = some .free) ∧ (env.cells.lookup x).isSome = true
  out : ∀ x, names.lookup x = some .globalImplicit → env.kindOf x = some .globalImplicit
structure CompSc (env : Env) (scope : Scope) : Prop where
  kind : scope.kind = .function
  nd : (scope.names.map (·.1)).Nodup
  free : ∀ x ∈ scope.names, x.2 = .free → (env.kindOf x.1 = some .cell ∨ env.kindOf x.1 = some .free) ∧ (env.cells.lookup x.1).isSome = true
def okName (x : Str) : Bool := !(x == ("__debug__" : Str)) && !(x == ("__classdict__" : Str))
structure CompE (names : Nk) (cenv : Env) (W : List Addr) : Prop where
  knows : Knows names cenv
  ownW : OwnW cenv W
  own : ∀ x, (names.lookup x = some .local ∨ names.lookup x = some .cell) → okName x = true → Own cenv W x
theorem lookup_relabel {env : Env} {x : Str} : ∀ {names : Nk},
    (names.map fun (n, k) => if (k == NameKind.free && env.scope.kind == .function && env.kindOf n == some .cell) then (n, NameKind.cell) else (n, k)).lookup x = (names.lookup x).map fun k => if (k == NameKind.free && env.scope.kind == .function && env.kindOf x == some .cell) then .cell else k
  | [] => rfl
  | (n, k) :: r => by
    have e : ∀ c : Prop, [Decidable c] → (if c then (n, NameKind.cell) else (n, k)) = (n, if c then NameKind.cell else k) := fun c _ => by split <;> rfl
    rw [List.map_cons]
    show List.lookup x ((if (k == NameKind.free && env.scope.kind == .function && env.kindOf n == some .cell) = true then (n, NameKind.cell) else (n, k)) :: _) = _
    rw [e, lookup_if, lookup_if, lookup_relabel]
    by_cases hx : n = x
    · rw [if_pos hx, if_pos hx, hx]; rfl
    · rw [if_neg hx, if_neg hx]
def clOf (env : Env) : Nk → List (Str × Addr) → List (Str × Addr)
  | [], acc => acc
  | (n, k) :: r, acc => clOf env r (if k == .free then (n, (env.cells.lookup n).getD 0) :: acc else acc)
theorem closureFor_is {scope : Scope} {env : Env} (hf : ∀ x ∈ scope.names, x.2 = .free → (env.cells.lookup x.1).isSome = true) : closureFor scope env = pure (clOf env scope.names []) := by
  have go : ∀ (names : Nk) (acc : List (Str × Addr)), (∀ x ∈ names, x.2 = .free → (env.cells.lookup x.1).isSome = true) →
      (forIn names acc fun (x : Str × NameKind) (cs : List (Str × Addr)) => (match x with | (name, kind) => if (kind == .free) = true then (do let a ← cellOf env name; pure (ForInStep.yield ((name, a) :: cs))) else pure (ForInStep.yield cs) : Sem (ForInStep (List (Str × Addr))))) = pure (clOf env names acc) := by
    intro names
    induction names with
    | nil => intro acc _; rfl
    | cons y r ih =>
      intro acc h
      obtain ⟨n, k⟩ := y
      rw [List.forIn_cons]
      have ih := fun acc => ih acc fun x hx => h x (.tail _ hx)
      unfold clOf
      cases q : k == NameKind.free with
      | true =>
        obtain ⟨c, hc⟩ := Option.isSome_iff_exists.mp (h (n, k) (.head _) (eq_of_beq q))
        have hc : env.cells.lookup n = some c := hc
        have e : cellOf env n = pure c := by unfold cellOf; rw [hc]
        dsimp only
        rw [if_pos q, e, hc]
        exact ih _
      | false =>
        dsimp only
        rw [if_neg (Bool.eq_false_iff.mp q)]
        exact ih _
  have := go scope.names [] hf
  unfold closureFor
  simp only [bind_pure]
  exact this
theorem clOf_lookup {env : Env} {x : Str} : ∀ {names : Nk} {acc : List (Str × Addr)}, (names.map (·.1)).Nodup → (clOf env names acc).lookup x = if names.lookup x = some .free then some ((env.cells.lookup x).getD 0) else acc.lookup x
  | [], acc, _ => (if_neg nofun).symm
  | (n, k) :: r, acc, nd => by
    obtain ⟨h1, h2⟩ := List.nodup_cons.mp nd
    unfold clOf
    rw [clOf_lookup h2, lookup_if]
    by_cases q : n = x
    · rw [if_pos q, lookup_nd h1 q, if_neg nofun]
      by_cases z : k = .free
      · rw [if_pos (beq_iff_eq.mpr z), if_pos (congrArg some z), lookup_if, if_pos q, q]
      · rw [if_neg fun e => z (beq_iff_eq.mp e), if_neg fun e => z (Option.some.inj e)]
    · rw [if_neg q]
      congr 1
      split
      · rw [lookup_if, if_neg q]
      · rfl
theorem clOf_mem {env : Env} {p : Str × Addr} : ∀ {names : Nk} {acc : List (Str × Addr)}, p ∈ clOf env names acc → p ∈ acc ∨ ∃ x ∈ names, x.2 = .free ∧ p.1 = x.1 ∧ p.2 = (env.cells.lookup x.1).getD 0
  | [], acc, h => .inl h
  | (n, k) :: r, acc, h => by
    unfold clOf at h
    rcases clOf_mem h with q | ⟨x, m, e⟩
    · by_cases hk : (k == NameKind.free) = true
      · rw [if_pos hk] at q
        rcases List.mem_cons.mp q with z | z
        · exact .inr ⟨(n, k), .head _, beq_iff_eq.mp hk, congrArg Prod.fst z, congrArg Prod.snd z⟩
        · exact .inl z
      · rw [if_neg hk] at q; exact .inl q
    · exact .inr ⟨x, .tail _ m, e⟩
theorem clOf_apart {env : Env} (ap : env.cells.Pairwise fun x y => x.2 ≠ y.2) : ∀ {names : Nk} {acc : List (Str × Addr)}, (∀ x ∈ names, x.2 = .free → (env.cells.lookup x.1).isSome = true) → (names.map (·.1)).Nodup → (acc.Pairwise fun x y => x.2 ≠ y.2) →
    (∀ p ∈ acc, p ∈ env.cells ∧ p.1 ∉ names.map (·.1)) → (clOf env names acc).Pairwise fun x y => x.2 ≠ y.2
  | [], acc, _, _, h, _ => h
  | (n, k) :: r, acc, hf, nd, h, hm => by
    obtain ⟨h1, h2⟩ := List.nodup_cons.mp nd
    unfold clOf
    have old : ∀ p ∈ acc, p ∈ env.cells ∧ p.1 ∉ r.map (·.1) := fun p hp => ⟨(hm p hp).1, fun q => (hm p hp).2 (.tail _ q)⟩
    by_cases hk : (k == NameKind.free) = true
    · rw [if_pos hk]
      obtain ⟨c, hc⟩ := Option.isSome_iff_exists.mp (hf (n, k) (.head _) (beq_iff_eq.mp hk))
      have hc : env.cells.lookup n = some c := hc
      rw [hc]
      refine clOf_apart ap (fun x hx => hf x (.tail _ hx)) h2 (List.pairwise_cons.mpr ⟨fun y hy e => ?_, h⟩) fun p hp => (List.mem_cons.mp hp).elim (fun z => z ▸ ⟨mem_of_lookup hc, h1⟩) (old p)
      have e : c = y.2 := e
      have := name_of_addr ap (mem_of_lookup hc) (n' := y.1) (e ▸ (hm y hy).1)
      exact (hm y hy).2 (this ▸ .head _)
    · rw [if_neg hk]
      exact clOf_apart ap (fun x hx => hf x (.tail _ hx)) h2 h old
theorem cellsFrom_acc : ∀ (names : Nk) (n : Nat) (acc : List (Str × Addr)), cellsFrom n names acc = cellsFrom n names [] ++ acc
  | [], _, _ => rfl
  | (x, k) :: r, n, acc => by
    unfold cellsFrom
    split
    · rw [cellsFrom_acc r (n + 1) ((x, n) :: acc), cellsFrom_acc r (n + 1) [(x, n)], List.append_assoc]; rfl
    · exact cellsFrom_acc r n acc
theorem cellsFrom_none {x : Str} : ∀ (names : Nk) (n : Nat) (acc : List (Str × Addr)), (names.map (·.1)).Nodup → names.lookup x ≠ some .cell → (cellsFrom n names acc).lookup x = acc.lookup x
  | [], _, _, _, _ => rfl
  | (y, k) :: r, n, acc, nd, h => by
    obtain ⟨h1, h2⟩ := List.nodup_cons.mp nd
    rw [lookup_if] at h
    unfold cellsFrom
    by_cases q : y = x
    · rw [if_pos q] at h
      have hr : r.lookup x ≠ some .cell := by rw [lookup_nd h1 q]; exact nofun
      rw [if_neg fun e => h (congrArg some (beq_iff_eq.mp e))]
      exact cellsFrom_none r n acc h2 hr
    · rw [if_neg q] at h
      split
      · rw [cellsFrom_none r (n + 1) _ h2 h, lookup_if, if_neg q]
      · exact cellsFrom_none r n acc h2 h
section
variable {C : Cx} {H : Nat} {env : Env} {m m' : M} {σ σ' : List Cell} {A : Around} {h h' : Heap} {ρ ρ' : Rg} {s : Shared}
theorem aft_emit {elt : Expr} {W : List Addr} {D : Addr} : AftOk C H env W A D (do let _ ← call (.builtin "list.append") [.ref D, ← eval elt env]) (fun m σ acc k => WL C H env elt m σ fun d σ' => acc.length ≤ 100000 ∧ k m σ' (acc ++ [d])) := fun s ρ m σ acc k P dF ha w => by
  refine wpAny_bind (mono (w A s ρ P) fun v s₁ yy => yy.elim fun d h₁ t₁ ρ₁ σ₁ g S R zz => ?_)
  obtain ⟨vs, n, e1, r1⟩ := ha.carry g.carry fun o => g.keep D o (P.st.onF dF).2
  have F₁ := P.fm.grow P.st g
  have nD := AccAt.ne (acc := acc) (D := D) ⟨vs, n, e1, r1⟩ F₁
  refine wpAny_bind (call_meets F.slot_list_append ⟨_, e1, rfl⟩ F.entry_list_append (F.args_list_append_2 _ _) (PySem.list_append D vs.toArray n v (r1.fits (Nat.le_trans zz.1 (by decide)))) ⟨e1, ?_⟩)
  have k : ∀ b o, b ≠ D → h₁.get? b = some o → (h₁.update D (Obj.mapSeq fun y => y.push v)).get? b = some o := fun b o n q => ((Heap.SameBut.update h₁ D (Obj.mapSeq fun y => y.push v)).2 b n).trans q
  have wf : ∀ b ∈ [D], b ∈ ρ₁.f := fun b q => by rw [List.mem_singleton.mp q, show ρ₁.f = ρ.f from g.fr]; exact dF
  obtain ⟨k', e'⟩ := upd_at e1 (fun y => y.push v) (List.push_toArray vs v)
  have cr := frames_carry wf (keep1 k)
  exact wpAny_pure ⟨m, σ₁, acc ++ [d], _, t₁, ρ₁, rfl, ⟨g.pre, g.fr, g.fresh, fun b o n1 n2 e => k b o (fun q => n2 (q ▸ .head _)) (g.keep b o n1 e)⟩, S.frames wf (keep1 k) (live1 ⟨_, e'⟩), F₁.move cr (fun b q o => k b o fun z => nD (z ▸ q)) F₁.off, ⟨_, k', e', (r1.append (.cons R .nil)).carry cr⟩, zz.2⟩
theorem comp_start {e : Expr} {depth : Nat} {I : Addr} {acc : Value} {g : Comprehension} {R : Result → Shared → Prop} (hf : (Code.compStart e depth (.ref I) acc env).isFrame = false) (hg : (clausesOf e)[depth]? = some g) (hsync : g.is_async = 0)
    (h0 : codeAny (C.M) A (.compLoop e depth (.ref I) acc env) R s) (hq : (Code.compLoop e depth (.ref I) acc env).quiet = true)
    (h : ∀ Q : Value → Shared → Prop, Q (.ref I) s → wpAny (C.M) A (pyIter (.ref I)) Q (fun _ _ => False) s) (hqs : A.under (Code.compStart e depth (.ref I) acc env) = A) :
    codeAny (C.M) A (.compStart e depth (.ref I) acc env) R s := by
  refine codeAny_of_tree ?_
  rw [hqs]
  show wpAny _ A (if (Code.compStart e depth (.ref I) acc env).isFrame = true then _ else (compStart e depth (.ref I) acc env).onRaise (fun x => do noteFrame x env; standAt theWindowsPlace)) _ _ s
  rw [hf]
  refine wpAny_notedAt ?_
  unfold compStart
  rw [hg]
  simp only [Option.elim_some, hsync, bne_self_eq_false, Bool.false_eq_true, if_false]
  refine wpAny_bind (wpAny_askSetting (wpAny_ite ?_))
  split
  · first
      | exact wpAny_pure (And.intro hq h0)
      | exact wpAny_bind (wpAny_pure (wpAny_pure (And.intro hq h0)))
  · first
      | exact wpAny_bind (wpAny_rule (wpAny_bind (wpAny_standAt (wpAny_bind (monoE (h (fun v s' => v = .ref I ∧ s' = s) ⟨rfl, rfl⟩) fun v s' ⟨e1, e2⟩ => by subst e1 e2; exact wpAny_pure (And.intro hq h0))))))
      | exact wpAny_rule (wpAny_bind (wpAny_standAt (wpAny_bind (monoE (h (fun v s' => v = .ref I ∧ s' = s) ⟨rfl, rfl⟩) fun v s' ⟨e1, e2⟩ => by subst e1 e2; exact wpAny_pure (And.intro hq h0)))))
theorem nfe_comp {scope : Scope} {cl : List (Str × Addr)} {Q : Env → Shared → Prop} {E : Value → Shared → Prop}
    (hQ : Q (newEnv scope s.heap.objs.size env.globals (cellsFrom (s.heap.objs.size + 1) scope.names cl) env.qual none .none (some env) builtinsNs) { s with heap := pushCells (s.heap.push { cls := .type "dict", data := .dict #[] }) scope.names }) :
    wpAny (C.M) A (newFunctionEnv scope env.globals cl [] env.qual none .none (some env)) Q E s := by
  simp only [newFunctionEnv, Option.isSome_some, if_true]
  refine wpAny_bind (wpAny_alloc ?_)
  refine wpAny_bind (wpAny_layCells _ (fun name kind cells => by cases hkc : kind == NameKind.cell <;> simp [hkc]) _ _ _ _ ?_)
  rw [show ({ s with heap := s.heap.push { cls := .type "dict", data := .dict #[] } } : Shared).heap.objs.size = s.heap.objs.size + 1 from Heap.size_push ..]
  rw [List.forIn_nil]
  exact wpAny_bind (wpAny_pure (wpAny_pure hQ))
end

theorem lookup_nodup {α : Type} {x : Str × α} : ∀ {l : List (Str × α)}, (l.map (·.1)).Nodup → x ∈ l → l.lookup x.1 = some x.2
  | (n, k) :: r, nd, m => by
    obtain ⟨h1, h2⟩ := List.nodup_cons.mp nd
    rw [lookup_if]
    rcases List.mem_cons.mp m with e | e
    · rw [e, if_pos rfl]
    · rw [if_neg fun q : n = x.1 => h1 (List.mem_map.mpr ⟨x, e, q.symm⟩)]
      exact lookup_nodup h2 e
section
variable {C : Cx} {H : Nat} {env : Env} {m m' : M} {σ σ' : List Cell} {A : Around} {h h' : Heap} {ρ ρ' : Rg} {s : Shared}
theorem Full.none (k : Full h h') {a : Addr} (e : h'.get? a = .none) : h.get? a = .none := none_of fun o q => no_both e (k a o q)
theorem perm4 {a : Addr} {wr W f : List Addr} {D : Addr} : a ∈ wr ++ (W ++ D :: f) ↔ a ∈ wr ∨ a ∈ W ∨ a = D ∨ a ∈ f := by rw [List.mem_append, List.mem_append, List.mem_cons]
theorem Full.trans {h'' : Heap} (k : Full h h') (k' : Full h' h'') : Full h h'' := fun b o e => k' b o (k b o e)
theorem comp_run {elt tgt iter : Expr} {ifs : List Expr} {rest : List Comprehension} {scope : Scope} {pos ip fp : Pos} {use : Option (Value → Sem Unit)} {after : Addr → Env → Sem Unit} {inner : Env → List Addr → M → List Cell → List V → Kt → Prop} {kk : List V → List Cell → Prop} {Q : Value → Shared → Prop}
    (hsc : CompSc env scope) (hfs : ∀ x, foldedSetIterable iter env x = pure x) (hm : ∀ x d, m'.lookup x = some d → m.lookup x = some d ∧ scope.names.lookup x = some .free)
    (hturn : ∀ I D cenv, compTurn (.ListComp elt (⟨tgt, iter, ifs, 0⟩ :: rest) scope pos) 0 (.ref I) (.ref D) cenv = (do
      standAt ip
      match ← pyNext (.ref I) with
      | none => pure (.done .next)
      | some v =>
        letOwnedTupleGo tgt (.ref I) v
        assign tgt cenv v
        let mut ok := true
        for c in ifs do
          if ok then ok ← isTrue c cenv (eval c cenv)
        if ok then
          after D cenv
        again (.compLoop (.ListComp elt (⟨tgt, iter, ifs, 0⟩ :: rest) scope pos) 0 (.ref I) (.ref D) cenv)))
    (haft : ∀ cenv W D, CompE scope.names cenv W → D ∉ W → AftOk C H cenv W A D (after D cenv) (inner cenv W))
    (P : Pre C H env m σ A s.heap ρ)
    (hw : WI C H env iter tgt m σ fun xs Sσ σ₁ => ∀ cenv W, CompE scope.names cenv W → CLoop C H cenv W tgt ifs (inner cenv W) Sσ xs m' σ₁ [] (fun _ σ₂ acc => kk acc σ₂))
    (hend : ∀ (L D : Addr) (h₅ : Heap) (tk : Nat) (l' : List Addr) (σ₂ : List Cell) (acc : List V) (m5 : Str → Option Value), h₅.Ns L m5 → L ∉ ρ.f → s.heap.get? L = .none → Grow s.heap ρ h₅ ⟨l', ρ.f⟩ → St C h₅ ⟨l', L :: ρ.f⟩ σ₂ → Rep C h₅ ⟨l', L :: ρ.f⟩ (.ref D) (.lst acc) → kk acc σ₂ →
      compPost (C.M) A (fun _ _ => False) use Q (.ref D) L (.ok .next) (up s h₅ tk)) :
    wpAny (C.M) A (comprehension (.ListComp elt (⟨tgt, iter, ifs, 0⟩ :: rest) scope pos) scope env fp (newList []) false (eval iter env) use) Q (fun _ _ => False) s := by
  have hfree : ∀ x ∈ scope.names, x.2 = .free → (env.cells.lookup x.1).isSome = true := fun x hx e => (hsc.free x hx e).2
  have hnames : ∀ x ∈ scope.names, scope.names.lookup x.1 = some x.2 := fun x hx => lookup_nodup hsc.nd hx
  refine wpAny_comprehension_free rfl hfs (closureFor_is hfree) hsc.kind (fun x hx e => by rw [hnames x hx, e]) ?_
  refine mono (hw A s ρ P) fun xv s₁ h₁ => mono h₁ fun it s₂ yy => ?_
  obtain ⟨I, wr, xs, Pi, Src, Sσ, hb, ρ₁, σ₁, h₂, tk₂, eI, es, g, S, kf, fr, T, p0, sr, lp⟩ := yy
  subst eI es
  refine wpAny_newList ?_
  refine nfe_comp ?_
  generalize hD : h₂.objs.size = D
  show codeAny _ _ _ _ _
  generalize hH3 : h₂.push (lstO [] 0) = h₃
  have z3 : h₃.objs.size = D + 1 := by rw [← hH3, Heap.size_push, hD]
  rw [z3]
  generalize hH4 : pushCells (h₃.push { cls := .type "dict", data := .dict #[] }) scope.names = h₄
  generalize hcs : cellsFrom (D + 1 + 1) scope.names (clOf env scope.names []) = cs
  have hcs' : cs = cellsFrom (D + 1 + 1) scope.names [] ++ clOf env scope.names [] := by rw [← hcs, cellsFrom_acc]
  generalize how : cellsFrom (D + 1 + 1) scope.names [] = own at hcs'
  generalize hcl : clOf env scope.names [] = cl at hcs'
  -- heaps
  have k24 : Full h₂ h₄ := fun b o e => by rw [← hH4]; exact pushCells_keeps _ _ b o (Heap.get?_push_of_some _ (by rw [← hH3]; exact Heap.get?_push_of_some _ e))
  have kb4 := kf.trans k24
  have ok : CellsOk h₄ (D + 1 + 1) own := by
    have := cellsFrom_ok scope.names (h₃.push { cls := .type "dict", data := .dict #[] }) (D + 1 + 1) [] ⟨fun _ _ hm => (nomatch hm), List.Pairwise.nil⟩ (by rw [Heap.size_push, z3]; exact Nat.le_refl _)
    rw [Heap.size_push, z3, hH4, how] at this; exact this
  have ns4 : h₄.Ns (D + 1) fun _ => .none := by
    have := (Heap.Ns.new h₃ (.type "dict")).keeps (pushCells_keeps scope.names _)
    rw [z3, hH4] at this; exact this
  have d4 : h₄.get? D = some (lstO [] 0) := by rw [← hH4]; exact pushCells_keeps _ _ D _ (Heap.get?_push_of_some _ (by rw [← hH3, ← hD]; exact Heap.get?_push_size _ rfl))
  have f2 : ∀ a, D ≤ a → h₂.get? a = .none := fun a l => none_of_size (hD ▸ l)
  have fC : hb.get? (D + 1) = .none := kf.none (f2 _ (Nat.le_succ _))
  have below : ∀ b o, h₂.get? b = some o → b < D := fun b o e => Nat.lt_of_not_le fun l => no_both (f2 b l) e
  -- addresses
  let W : List Addr := (D + 1) :: own.map (·.2)
  have hWge : ∀ b ∈ W, D + 1 ≤ b := fun b q => (List.mem_cons.mp q).elim (fun q => q ▸ Nat.le_refl _) fun q => let ⟨p, hp, e⟩ := List.mem_map.mp q; e ▸ Nat.le_of_succ_le (ok.empty p.1 p.2 hp).2
  let f0 : List Addr := W ++ (D :: ρ₁.f)
  have fnew : ∀ b, b ∈ W ∨ b = D → h₂.get? b = .none := fun b q => f2 b (q.elim (fun q => Nat.le_of_succ_le (hWge b q)) fun q => Nat.le_of_eq q.symm)
  have alive : ∀ b, b ∈ W ∨ b = D → ∃ o, h₄.get? b = some o := fun b q => by
    rcases q with q | rfl
    · rcases List.mem_cons.mp q with rfl | q
      · obtain ⟨o, _, _, e, _⟩ := ns4; exact ⟨o, e⟩
      · obtain ⟨p, hp, rfl⟩ := List.mem_map.mp q
        obtain ⟨o, e', _⟩ := (ok.empty p.1 p.2 hp).1
        exact ⟨o, e'⟩
    · exact ⟨_, d4⟩
  have S₂ := S.pushed kf fr (T.live 0 h₂ p0)
  have c4 : Carry h₂ ⟨ρ₁.l, wr ++ ρ₁.f⟩ h₄ ⟨ρ₁.l, wr ++ f0⟩ := ⟨fun e => e, fun {a o} n1 n2 e => ⟨n1, fun q => (perm4.mp q).elim (fun q => n2 (List.mem_append_left _ q)) fun q => q.elim (fun q => no_both (fnew a (.inl q)) e) fun q => q.elim (fun q => no_both (fnew a (.inr q)) e) fun q => n2 (List.mem_append_right _ q), k24 _ _ e⟩⟩
  have S₄ : St C h₄ ⟨ρ₁.l, wr ++ f0⟩ σ₁ := S₂.move c4 (fun a _ => k24 a) (fun b o _ => k24 b o) fun a q => by
    have old : a ∈ wr ++ ρ₁.f → Own1 C h₄ a ∧ a ∉ ρ₁.l := fun q => ⟨(S₂.onF q).1.keep (k24 a), (S₂.onF q).2⟩
    have new : a ∈ W ∨ a = D → Own1 C h₄ a ∧ a ∉ ρ₁.l := fun q => ⟨⟨(S₂.new (fnew a q)).1, alive a q⟩, (S₂.new (fnew a q)).2.1⟩
    rcases perm4.mp q with q | q | q | q
    · exact old (List.mem_append_left _ q)
    · exact new (.inl q)
    · exact new (.inr q)
    · exact old (List.mem_append_right _ q)
  have F₁ := P.fm.grow P.st g
  have ef : ρ₁.f = ρ.f := g.fr
  have clmem : ∀ p ∈ cl, p ∈ env.cells := fun p hp => by
    rw [← hcl] at hp
    rcases clOf_mem hp with q | ⟨x, hx, e1, e2, e3⟩
    · cases q
    · obtain ⟨c, hc⟩ := Option.isSome_iff_exists.mp (hfree x hx e1)
      rw [hc] at e3
      have : p = (x.1, c) := Prod.ext e2 e3
      rw [this]; exact mem_of_lookup hc
  have clap : cl.Pairwise fun x y => x.2 ≠ y.2 := by rw [← hcl]; exact clOf_apart P.fm.ap hfree hsc.nd List.Pairwise.nil (fun _ q => nomatch q)
  have clF : ∀ p ∈ cl, p.2 ∈ ρ₁.f := fun p hp => F₁.offC p (clmem p hp)
  have inf1 : ∀ b ∈ ρ₁.f, b < D := fun b q => let ⟨o, e⟩ := S.inh b (.inr q); below b o (kf _ _ e)
  generalize hE : ({ newEnv scope (D + 1) env.globals cs env.qual none .none (some env) builtinsNs with scope := relabel scope env } : Env) = cenv
  have esc : cenv.scope = relabel scope env := by rw [← hE]
  have elo : cenv.locals = D + 1 := by rw [← hE]; rfl
  have ece : cenv.cells = cs := by rw [← hE]; rfl
  have ekn : ∀ x, cenv.kindOf x = (scope.names.lookup x).map fun k => if (k == NameKind.free && env.scope.kind == .function && env.kindOf x == some .cell) then .cell else k := fun x => by
    unfold Env.kindOf; rw [esc]; exact lookup_relabel
  have lkfree : ∀ x, scope.names.lookup x = some .free → (cenv.kindOf x = some .cell ∨ cenv.kindOf x = some .free) ∧ cenv.cells.lookup x = env.cells.lookup x := fun x e => by
    refine ⟨?_, ?_⟩
    · rw [ekn, e, Option.map_some]
      exact (Classical.em _).elim (fun q => .inl (congrArg some (if_pos q))) fun q => .inr (congrArg some (if_neg q))
    · rw [ece, ← hcs, cellsFrom_none _ _ _ hsc.nd (by rw [e]; exact nofun), clOf_lookup hsc.nd, if_pos e]
      obtain ⟨c, hc⟩ := Option.isSome_iff_exists.mp (hfree (x, .free) (mem_of_lookup e) rfl)
      have hc' : env.cells.lookup x = some c := hc
      rw [hc']; rfl
  have lkcell : ∀ x, scope.names.lookup x = some .cell → ∃ c, cenv.cells.lookup x = some c ∧ c ∈ own.map (·.2) := fun x e => by
    obtain ⟨c, hc⟩ := Option.isSome_iff_exists.mp (cellsFrom_some _ _ _ (.inl e) : ((cellsFrom (D + 1 + 1) scope.names []).lookup x).isSome = true)
    rw [how] at hc
    exact ⟨c, by rw [ece, hcs', List.lookup_append, hc]; rfl, List.mem_map.mpr ⟨(x, c), mem_of_lookup hc, rfl⟩⟩
  have nfx : ∀ x (k : NameKind), scope.names.lookup x = some k → k ≠ .free → cenv.kindOf x = some k := fun x k e n => by
    rw [ekn, e, Option.map_some, if_neg]
    exact fun z => n (beq_iff_eq.mp (Bool.and_eq_true_iff.mp (Bool.and_eq_true_iff.mp z).1).1)
  have cellsAt : ∀ p ∈ cenv.cells, p ∈ own ∨ p ∈ cl := fun p hp => by rw [ece, hcs'] at hp; exact List.mem_append.mp hp
  have hE0 : ∀ b ∈ envW cenv, b ∈ f0 := fun b q => by
    rcases List.mem_cons.mp q with rfl | q
    · rw [elo]; exact .head _
    · obtain ⟨p, hp, rfl⟩ := List.mem_map.mp q
      exact (cellsAt p hp).elim (fun q => List.mem_append_left _ (.tail _ (List.mem_map_of_mem q))) fun q => List.mem_append_right _ (.tail _ (clF p q))
  have F₄ : Fm C cenv m' h₄ ⟨ρ₁.l, wr ++ f0⟩ := by
    refine ⟨(congrArg Scope.kind esc).trans hsc.kind, by rw [← hE]; exact P.fm.gl, by rw [← hE]; exact P.fm.bu, ⟨_, elo ▸ ns4, fun x d e q => ?_⟩, fun x d e q => ?_, fun p hp => ?_, ?_, List.mem_append_right _ (hE0 _ (.head _)), fun p hp => List.mem_append_right _ (hE0 _ (cell_envW hp)), fun x d e => P.fm.db x d (hm x d e).1⟩
    · exact (lkfree x (hm x d e).2).1.elim (fun z => nomatch z.symm.trans q) fun z => nomatch z.symm.trans q
    · obtain ⟨e1, e2⟩ := hm x d e
      have k1 : env.kindOf x = some .cell ∨ env.kindOf x = some .free := (hsc.free (x, .free) (mem_of_lookup e2) rfl).1
      obtain ⟨_, ncd, c, v, ec, ⟨o, ho, hd⟩, r⟩ := F₁.cl x d e1 fun z => k1.elim (fun k => nomatch k.symm.trans z) fun k => nomatch k.symm.trans z
      exact ⟨(lkfree x e2).1, ncd, c, v, (lkfree x e2).2.trans ec, ⟨o, kb4 _ _ ho, hd⟩, (r.carry (kf.enter fr)).carry c4⟩
    · exact (cellsAt p hp).elim (fun q => ⟨_, (ok.empty p.1 p.2 q).1⟩) fun q => let ⟨v, o, ho, hd⟩ := F₁.cs p (clmem p q); ⟨v, o, kb4 _ _ ho, hd⟩
    · rw [ece, hcs', List.pairwise_append]
      exact ⟨ok.apart, clap, fun x hx y hy => (Nat.ne_of_lt (Nat.lt_of_lt_of_le (inf1 _ (clF y hy)) (Nat.le_trans (Nat.le_add_right D 2) (ok.empty x.1 x.2 hx).2))).symm⟩
  have CE : CompE scope.names cenv W := by
    refine ⟨⟨F₄.fn, fun x e => ?_, fun x e => nfx x _ e nofun, fun x e => ⟨nfx x _ e nofun, ?_⟩, fun x e => ⟨(lkfree x e).1, ?_⟩, fun x e => nfx x _ e nofun⟩, fun b q => ?_, fun x e okn => ?_⟩
    · rw [ekn] at e
      obtain ⟨k, e1, e2⟩ := Option.map_eq_some_iff.mp e
      split at e2
      · cases e2
      · rw [e1, e2]
    · obtain ⟨c, hc, _⟩ := lkcell x e; rw [hc]; rfl
    · rw [(lkfree x e).2]; exact hfree (x, .free) (mem_of_lookup e) rfl
    · rcases List.mem_cons.mp q with rfl | q
      · exact elo ▸ .head _
      · exact .tail _ (by rw [ece, hcs', List.map_append]; exact List.mem_append_left _ q)
    · have okn := Bool.and_eq_true_iff.mp okn
      refine ⟨?_, (Bool.not_eq_true' _).mp okn.1⟩
      rcases e with e | e
      · exact .inl ⟨nfx x _ e nofun, elo ▸ .head _⟩
      · obtain ⟨c, hc, mc⟩ := lkcell x e
        exact .inr ⟨c, nfx x _ e nofun, hc, (Bool.not_eq_true' _).mp okn.2, .tail _ mc⟩
  have hDW : D ∉ W := fun q => Nat.lt_irrefl _ (hWge D q)
  have hdj : ∀ b ∈ f0, b ∉ wr := fun b q z => by
    obtain ⟨o, e⟩ := T.live 0 h₂ p0 b z
    rcases List.mem_append.mp q with q | q
    · exact no_both (fnew b (.inl q)) e
    · rcases List.mem_cons.mp q with q | q
      · exact no_both (fnew b (.inr q)) e
      · exact (S.new (fr b z)).2.2 q
  refine comp_start (C := C) (s := (up s h₄ tk₂)) (by rfl) (by rfl) rfl ?_ rfl (fun Q q => T.self 0 _ Q (T.frame _ _ _ p0 fun b _ o e => k24 _ _ e) q) rfl
  refine codeAny_mono (comp_loop (s := (up s h₄ tk₂)) (hturn I D cenv) CE.ownW hDW T (haft cenv W D CE hDW) ⟨P.ok, P.am, S₄, F₄⟩ hE0 (List.mem_append_right _ (.head _)) hdj (T.frame _ _ _ p0 fun b _ o e => k24 _ _ e) (T.carry c4 sr) ⟨[], 0, d4, .nil⟩ (lp cenv W CE)) ?_
  rintro r s₅ ⟨rfl, m5, σ5, acc5, h5, t5, ρ5, rfl, g5, S5, F5, ⟨vs5, n5, d5, r5⟩, z5⟩
  obtain ⟨ml, ns5, _⟩ := F5.ns
  rw [elo] at ns5
  rw [show ρ5 = ⟨ρ5.l, f0⟩ from Rg.eq_of (l' := ρ.l) g5.fr] at S5 r5
  -- leave the frame's cells and D; L stays
  have sub : ∀ a, a ∈ (D + 1) :: ρ₁.f → a ∈ f0 := fun a q => (List.mem_cons.mp q).elim (fun q => q ▸ .head _) fun q => List.mem_append_right _ (.tail _ q)
  have cx : Carry h5 ⟨ρ5.l, f0⟩ h5 ⟨ρ5.l, (D + 1) :: ρ₁.f⟩ := ⟨fun e => e, fun {a o} n1 n2 e => ⟨n1, fun q => n2 (sub a q), e⟩⟩
  have S6 : St C h5 ⟨ρ5.l, (D + 1) :: ρ₁.f⟩ σ5 := S5.move cx (fun _ _ _ e => e) (fun _ _ _ e => e) fun a q => S5.onF (sub a q)
  have R6 : Rep C h5 ⟨ρ5.l, (D + 1) :: ρ₁.f⟩ (.ref D) (.lst acc5) := .lst (S5.onF (List.mem_append_right _ (.head _))).2 (fun q => (List.mem_cons.mp q).elim (fun q => Nat.succ_ne_self _ q.symm) fun q => Nat.lt_irrefl _ (inf1 D q)) d5 (r5.carry cx)
  have gg := g.trans (⟨g5.pre, rfl, fun a m n => kb4.none (g5.fresh a m n), fun b o n _ e => g5.kp b o n (fun q => by
    have e2 := kf _ _ e
    rcases List.mem_append.mp q with q | q
    · exact no_both (fr b q) e
    · exact no_both (fnew b ((List.mem_cons.mp q).symm)) e2) (kb4 _ _ e)⟩ : Grow hb ρ₁ h5 ⟨ρ5.l, ρ₁.f⟩)
  have sC : s.heap.get? (D + 1) = .none := none_of fun o e => (Classical.em (D + 1 ∈ ρ.l)).elim (fun q => (S6.onF (.head _)).2 (gg.mem q)) fun q => no_both fC (g.keep _ o q e)
  have := hend (D + 1) D h5 t5 ρ5.l σ5 acc5 ml ns5 (ef ▸ fun q => Nat.lt_irrefl _ (Nat.lt_of_succ_lt (inf1 _ q))) sC (ef ▸ gg) (ef ▸ S6) (ef ▸ R6) z5
  exact this
end

abbrev emit (C : Cx) (H : Nat) (elt : Expr) (env : Env) (W : List Addr) : M → List Cell → List V → Kt → Prop := fun m σ acc k => WL C H env elt m σ fun d σ' => acc.length ≤ 100000 ∧ k m σ' (acc ++ [d])
abbrev nest (C : Cx) (H : Nat) (tgt iter : Expr) (ifs : List Expr) (inner : Env → List Addr → M → List Cell → List V → Kt → Prop) (env : Env) (W : List Addr) : M → List Cell → List V → Kt → Prop := fun m σ acc k =>
  WI C H env iter tgt m σ fun xs Sσ σ' => CLoop C H env W tgt ifs (inner env W) Sσ xs m σ' acc k
section
variable {C : Cx} {H : Nat} {env : Env} {m m' : M} {σ σ' : List Cell} {A : Around} {h h' : Heap} {ρ ρ' : Rg} {s : Shared}
theorem comp_end (g : Grow s.heap ρ h ⟨l', ρ.f⟩) {L D : Addr} {σ₂ : List Cell} {acc : List V} {tk : Nat} (hL : L ∉ ρ.f) (hs : s.heap.get? L = .none) (S : St C h ⟨l', L :: ρ.f⟩ σ₂) (R : Rep C h ⟨l', L :: ρ.f⟩ (.ref D) (.lst acc)) (sb : Heap.SameBut L h h') {Q : V → List Cell → Prop} (q : Q (.lst acc) σ₂) : Got C s ρ Q (.ref D) (up s h' tk) := by
  have k := keep1 sb.extBut
  exact ⟨.lst acc, h', tk, ⟨l', ρ.f⟩, σ₂, rfl, ⟨g.pre, rfl, g.fresh, fun b o n _ e => k b o (fun q => no_both hs (List.mem_singleton.mp q ▸ e)) (g.keep b o n e)⟩, S.popk (wr := [L]) (f := ρ.f) k fun b m q => hL (List.mem_singleton.mp q ▸ m), R.carry (carry_popk (wr := [L]) k), q⟩
theorem wl_comp {elt tgt iter : Expr} {ifs : List Expr} {scope : Scope} {pos : Pos} {Q : V → List Cell → Prop} (m' : M) (hsc : CompSc env scope) (hfs : ∀ x, foldedSetIterable iter env x = pure x) (hm : ∀ x d, m'.lookup x = some d → m.lookup x = some d ∧ scope.names.lookup x = some .free)
    (hw : WI C H env iter tgt m σ fun xs Sσ σ₁ => ∀ cenv W, CompE scope.names cenv W → CLoop C H cenv W tgt ifs (emit C H elt cenv W) Sσ xs m' σ₁ [] (fun _ σ₂ acc => Q (.lst acc) σ₂)) :
    WL C H env (.ListComp elt [⟨tgt, iter, ifs, 0⟩] scope pos) m σ Q := fun A s ρ P => by
  rw [eval_ListComp]
  refine comp_run (use := none) (after := fun D cenv => do let _ ← call (.builtin "list.append") [.ref D, ← eval elt cenv]) (inner := emit C H elt) (kk := fun acc σ₂ => Q (.lst acc) σ₂) hsc hfs hm (fun I D cenv => rfl) (fun cenv W D CE _ => aft_emit) P hw ?_
  intro L D h₅ tk l' σ₂ acc m5 ns hL hs g S R q
  exact ⟨m5, ns, fun h' sb => comp_end g hL hs S R sb q⟩
theorem wpAny_runOwn' {c : Code} {Q : Flow → Shared → Prop} (hc : codeAny (C.M) A c (fun r s' => match r with | .ok f => Q f s' | .error e => False) s) : wpAny (C.M) A (runOwn c env) Q (fun _ _ => False) s := by
  refine wpAny_runOwn (codeAny_mono hc fun r s' h => ?_)
  cases r with
  | ok f => exact h
  | error e => exact h.elim
theorem aft_nested {elt tgt iter : Expr} {gens : List Comprehension} {scope : Scope} {pos : Pos} {ifs : List Expr} {depth : Nat} {W : List Addr} {D : Addr} {after : Sem Unit} {inner : Env → List Addr → M → List Cell → List V → Kt → Prop} (hW : OwnW env W) (hDW : D ∉ W) (hg : gens[depth]? = some ⟨tgt, iter, ifs, 0⟩) (hfs : ∀ x, foldedSetIterable iter env x = pure x)
    (hturn : ∀ I, compTurn (.ListComp elt gens scope pos) depth (.ref I) (.ref D) env = (do
      standAt iter.pos
      match ← pyNext (.ref I) with
      | none => pure (.done .next)
      | some v =>
        letOwnedTupleGo tgt (.ref I) v
        assign tgt env v
        let mut ok := true
        for c in ifs do
          if ok then ok ← isTrue c env (eval c env)
        if ok then
          after
        again (.compLoop (.ListComp elt gens scope pos) depth (.ref I) (.ref D) env)))
    (haft : AftOk C H env W A D after (inner env W)) :
    AftOk C H env W A D (do
      let x ← eval iter env
      standAt iter.pos
      let x ← foldedSetIterable iter env x
      let _ ← runOwn (.compStart (.ListComp elt gens scope pos) depth (← holding [x] (pyIter x)) (.ref D) env) env) (nest C H tgt iter ifs inner env W) := fun s ρ m σ acc k P dF ha w => by
  refine wpAny_bind (mono (w A s ρ P) fun xv s₁ h₁ => wpAny_bind (wpAny_standAt (wpAny_bind (wpAny_of_eq (hfs xv) (wpAny_bind (wpAny_holding (mono h₁ fun it s₂ yy => ?_)))))))
  obtain ⟨I, wr, xs, Pi, Src, Sσ, hb, ρ₁, σ₁, h₂, tk₂, rfl, rfl, g, S, kf, fr, T, p0, sr, lp⟩ := yy
  refine wpAny_bind (wpAny_runOwn' ?_)
  have F₁ := P.fm.grow P.st g
  have cr : Carry hb ρ₁ h₂ ⟨ρ₁.l, wr ++ ρ₁.f⟩ := kf.enter fr
  have dF₁ : D ∈ ρ₁.f := by rw [show ρ₁.f = ρ.f from g.fr]; exact dF
  have F₂ : Fm C env m h₂ ⟨ρ₁.l, wr ++ ρ₁.f⟩ := F₁.move cr (fun a _ => kf a) fun a q => List.mem_append_right _ (F₁.off a q)
  have a₂ : AccAt C h₂ ⟨ρ₁.l, wr ++ ρ₁.f⟩ D acc := (ha.carry g.carry fun o => g.keep D o (P.st.onF dF).2).carry cr (kf D)
  refine comp_start (C := C) (s := (up s h₂ tk₂)) (g := ⟨tgt, iter, ifs, 0⟩) (by rfl) hg rfl ?_ rfl (fun Q q => T.self 0 _ Q p0 q) rfl
  refine codeAny_mono (comp_loop (s := (up s h₂ tk₂)) (hturn I) hW hDW T haft ⟨P.ok, P.am, S.pushed kf fr (T.live 0 h₂ p0), F₂⟩ F₁.off dF₁ (fun b q z => (S.new (fr b z)).2.2 q) p0 sr a₂ lp) ?_
  rintro r s₅ ⟨rfl, m5, σ5, acc5, h5, t5, ρ5, rfl, g5, S5, F5, a5, z5⟩
  refine wpAny_pure ⟨m5, σ5, acc5, h5, t5, ρ5, rfl, ?_, S5, F5, a5, z5⟩
  exact g.c.trans ⟨g5.pre, g5.fr, fun a m n => kf.none (g5.fresh a m n), fun b o n n2 e => g5.kp b o n (fun q => (List.mem_append.mp q).elim (fun q => no_both (fr b q) e) n2) (kf _ _ e)⟩ fun a q z => S5.dj a z (by rw [show ρ5.f = ρ₁.f from g5.fr]; exact (List.mem_cons.mp q).elim (fun q => q ▸ dF₁) fun q => F₁.off a (hW a q))
theorem turn2 {elt tgt iter tgt2 iter2 : Expr} {ifs ifs2 : List Expr} {scope : Scope} {pos : Pos} (I D : Addr) (cenv : Env) : compTurn (.ListComp elt [⟨tgt, iter, ifs, 0⟩, ⟨tgt2, iter2, ifs2, 0⟩] scope pos) 0 (.ref I) (.ref D) cenv = (do
      standAt iter.pos
      match ← pyNext (.ref I) with
      | none => pure (.done .next)
      | some v =>
        letOwnedTupleGo tgt (.ref I) v
        assign tgt cenv v
        let mut ok := true
        for c in ifs do
          if ok then ok ← isTrue c cenv (eval c cenv)
        if ok then
          (do
            let x ← eval iter2 cenv
            standAt iter2.pos
            let x ← foldedSetIterable iter2 cenv x
            let _ ← runOwn (.compStart (.ListComp elt [⟨tgt, iter, ifs, 0⟩, ⟨tgt2, iter2, ifs2, 0⟩] scope pos) 1 (← holding [x] (pyIter x)) (.ref D) cenv) cenv)
        again (.compLoop (.ListComp elt [⟨tgt, iter, ifs, 0⟩, ⟨tgt2, iter2, ifs2, 0⟩] scope pos) 0 (.ref I) (.ref D) cenv)) := by
  unfold compTurn
  simp only [List.getElem?_cons_zero, List.getElem?_cons_succ, bne_self_eq_false, Bool.false_eq_true, if_false, bind_assoc, pure_bind]
  rfl
theorem wl_comp2 {elt tgt iter tgt2 iter2 : Expr} {ifs ifs2 : List Expr} {scope : Scope} {pos : Pos} {Q : V → List Cell → Prop} (m' : M) (hsc : CompSc env scope) (hfs : ∀ x, foldedSetIterable iter env x = pure x) (hfs2 : ∀ env x, foldedSetIterable iter2 env x = pure x) (hm : ∀ x d, m'.lookup x = some d → m.lookup x = some d ∧ scope.names.lookup x = some .free)
    (hw : WI C H env iter tgt m σ fun xs Sσ σ₁ => ∀ cenv W, CompE scope.names cenv W → CLoop C H cenv W tgt ifs (nest C H tgt2 iter2 ifs2 (emit C H elt) cenv W) Sσ xs m' σ₁ [] (fun _ σ₂ acc => Q (.lst acc) σ₂)) :
    WL C H env (.ListComp elt [⟨tgt, iter, ifs, 0⟩, ⟨tgt2, iter2, ifs2, 0⟩] scope pos) m σ Q := fun A s ρ P => by
  rw [eval_ListComp]
  refine comp_run (use := none) (after := fun D cenv => do
      let x ← eval iter2 cenv
      standAt iter2.pos
      let x ← foldedSetIterable iter2 cenv x
      let _ ← runOwn (.compStart (.ListComp elt [⟨tgt, iter, ifs, 0⟩, ⟨tgt2, iter2, ifs2, 0⟩] scope pos) 1 (← holding [x] (pyIter x)) (.ref D) cenv) cenv) (inner := nest C H tgt2 iter2 ifs2 (emit C H elt)) (kk := fun acc σ₂ => Q (.lst acc) σ₂) hsc hfs hm turn2
    (fun cenv W D CE hDW => aft_nested (depth := 1) (gens := [⟨tgt, iter, ifs, 0⟩, ⟨tgt2, iter2, ifs2, 0⟩]) (after := do let _ ← call (.builtin "list.append") [.ref D, ← eval elt cenv]) CE.ownW hDW rfl (hfs2 cenv) (fun I => rfl) aft_emit) P hw ?_
  intro L D h₅ tk l' σ₂ acc m5 ns hL hs g S R q
  exact ⟨m5, ns, fun h' sb => comp_end g hL hs S R sb q⟩
theorem w1_assign_comp {x : Str} {p pos cpos : Pos} {elt tgt iter : Expr} {ifs : List Expr} {scope : Scope} {Q : Fl → M → List Cell → Prop} (m' : M) (hk : Sto env x) (hsw : swapsWith (.ListComp elt [⟨tgt, iter, ifs, 0⟩] scope cpos) (some (.Name x p)) pos.line env = pure true)
    (hsc : CompSc env scope) (hfs : ∀ x, foldedSetIterable iter env x = pure x) (hm : ∀ x d, m'.lookup x = some d → m.lookup x = some d ∧ scope.names.lookup x = some .free)
    (hw : WI C H env iter tgt m σ fun xs Sσ σ₁ => ∀ cenv W, CompE scope.names cenv W → CLoop C H cenv W tgt ifs (emit C H elt cenv W) Sσ xs m' σ₁ [] (fun _ σ₂ acc => Q .next ((x, .lst acc) :: m) σ₂)) :
    W1 C H env (.Assign [.Name x p] (.ListComp elt [⟨tgt, iter, ifs, 0⟩] scope cpos) pos) m σ Q := fun A s ρ P => by
  rw [exec_Assign_Name_used _ _ _ _ hsw]
  refine wpAny_bind (wpAny_standAt (wpAny_bind ?_))
  show wpAny _ A (do let _ ← comprehension (.ListComp elt [⟨tgt, iter, ifs, 0⟩] scope cpos) scope env _ (newList []) false (eval iter env) (some (assign (.Name x p) env))) _ _ s
  refine wpAny_bind (mono (Q := fun _ s' => Ran C env s ρ Q .next s') (comp_run (use := some (assign (.Name x p) env)) (after := fun D cenv => do let _ ← call (.builtin "list.append") [.ref D, ← eval elt cenv]) (inner := emit C H elt) (kk := fun acc σ₂ => Q .next ((x, .lst acc) :: m) σ₂) hsc hfs hm (fun I D cenv => rfl) (fun cenv W D CE _ => aft_emit) P hw ?_) fun _ s' z => wpAny_pure (wpAny_pure z))
  intro L D h₅ tk l' σ₂ acc m5 ns hL hs g S R q
  have c5 : Carry s.heap ρ h₅ ⟨l', L :: ρ.f⟩ := ⟨fun e => g.get e, fun {a o} n1 n2 e => ⟨g.notMem n1 e, fun z => (List.mem_cons.mp z).elim (fun z => no_both hs (z ▸ e)) n2, g.keep a o n1 e⟩⟩
  have F5 : Fm C env m h₅ ⟨l', L :: ρ.f⟩ := P.fm.move c5 (fun a m o e => g.keep a o (P.fm.noOwn P.st a m) e) fun a m => .tail _ (P.fm.off a m)
  have nL : ∀ a ∈ envW env, a ∉ [L] := fun a q z => hL (List.mem_singleton.mp z ▸ P.fm.off a q)
  show wpAny _ A (assign (.Name x p) env (.ref D)) _ _ _
  refine mono (wa_name (Q := fun m σ => Q .next m σ) hk q A (up s h₅ tk) ⟨l', L :: ρ.f⟩ (.ref D) ⟨P.ok, P.am, S, F5⟩ R) fun _ s'' yy => ?_
  obtain ⟨fl, m₆, h₆, t₆, ρ₆, σ₆, rfl, g6, S6, F6, _, z6⟩ := yy
  have e6 : ρ₆ = ⟨ρ₆.l, [L] ++ ρ.f⟩ := Rg.eq_of (l' := l') g6.fr
  obtain ⟨o, es, ep, ho, r⟩ := ns
  refine ⟨m5, ⟨o, es, ep, g6.kp L o (fun z => S.dj L z (.head _)) (fun z => nL L z (.head _)) ho, r⟩, fun h' sb => ?_⟩
  have k := keep1 sb.extBut
  rw [e6] at S6 F6
  have g7 : GrowC (L :: envW env) s.heap ρ h' ⟨ρ₆.l, ρ.f⟩ := g.c.trans ⟨g6.pre, rfl, g6.fresh, fun b o n n1 e => k b o (fun q => n1 (List.mem_singleton.mp q ▸ .head _)) (g6.kp b o n (fun q => n1 (.tail _ q)) e)⟩
    fun a q z => (List.mem_cons.mp q).elim (fun q => S6.dj a z (q ▸ .head _)) fun q => F6.noOwn S6 a q z
  exact ⟨.next, m₆, h', t₆, ⟨ρ₆.l, ρ.f⟩, σ₆, rfl, ⟨g7.pre, g7.fr, g7.fresh, fun b o n n1 e => g7.kp b o n (fun z => (List.mem_cons.mp z).elim (fun z => no_both hs (z ▸ e)) n1) e⟩, S6.popk k fun b mm z => hL (List.mem_singleton.mp z ▸ mm), F6.move (carry_popk k) (fun a q o => k a o (nL a q)) P.fm.off, trivial, z6⟩
end

def WhileP (C : Cx) (H : Nat) (env : Env) (test : Expr) (body : List Stmt) (Q : Fl → M → List Cell → Prop) : Nat → M → List Cell → Prop
  | 0, _, _ => False
  | n + 1, m, σ => WB C H env test m σ fun b σ' => if b = true then WX C H env body m σ' fun fl m₂ σ₂ => (match fl with
      | .next => WhileP C H env test body Q n m₂ σ₂
      | .cont => WhileP C H env test body Q n m₂ σ₂
      | .brk => Q .next m₂ σ₂
      | .ret d => Q (.ret d) m₂ σ₂) else Q .next m σ'
def PartP (C : Cx) (H : Nat) (env : Env) : Option Expr → M → List Cell → (Option Int → List Cell → Prop) → Prop
  | none, _, σ, Q => Q none σ
  | some e, m, σ, Q => WL C H env e m σ fun d σ' => ∃ i, d = .int i ∧ Q (some i) σ'
def slc {α : Type} (xs : List α) (lo hi : Option Int) : List α := (xs.drop (lo.elim 0 (clipAt xs.length))).take (hi.elim xs.length (clipAt xs.length) - lo.elim 0 (clipAt xs.length))
def Iop (C : Cx) (H : Nat) (o i : V) (σ : List Cell) (Q : V → List Cell → Prop) : Prop :=
  ∀ A s ρ vo vi, Ok0 C H σ A s.heap ρ → Rep C s.heap ρ vo o → Rep C s.heap ρ vi i → ∃ T id, s.TypeIs vo T ∧ typeLookup (.type T) "__getitem__" = pure (some (.builtin id)) ∧ wpAny (C.M) A (getItem vo vi) (Got C s ρ Q) (fun _ _ => False) s
inductive URan (C : Cx) (s : Shared) (ρ : Rg) (Q : List Cell → Prop) (s' : Shared) : Prop
  | mk (h' : Heap) (tk : Nat) (σ' : List Cell) (e : s' = up s h' tk) (g : Grow s.heap ρ h' ρ) (S : St C h' ρ σ') (q : Q σ')
def Uop (C : Cx) (H : Nat) (o i d : V) (σ : List Cell) (Q : List Cell → Prop) : Prop :=
  ∀ A s ρ vo vi vd, Ok0 C H σ A s.heap ρ → Rep C s.heap ρ vo o → Rep C s.heap ρ vi i → Rep C s.heap ρ vd d → wpAny (C.M) A (setItem vo vi vd) (fun _ s' => URan C s ρ Q s') (fun _ _ => False) s
def stoAll : List Str → List V → M → M
  | n :: ns, d :: ds, m => stoAll ns ds ((n, d) :: m)
  | _, _, m => m
section
variable {C : Cx} {H : Nat} {env : Env} {m m' : M} {σ σ' : List Cell} {A : Around} {h h' : Heap} {ρ ρ' : Rg} {s : Shared}
inductive WhAt (C : Cx) (H : Nat) (env : Env) (test : Expr) (body : List Stmt) (Q : Fl → M → List Cell → Prop) (s : Shared) (ρ0 : Rg) (n : Nat) (s' : Shared) : Prop
  | mk (m : M) (h : Heap) (tk : Nat) (ρ : Rg) (σ : List Cell) (e : s' = up s h tk) (g : GrowF env s.heap ρ0 h ρ) (S : St C h ρ σ) (F : Fm C env m h ρ) (w : WhileP C H env test body Q n m σ)
theorem w1_while {test : Expr} {body : List Stmt} {pos : Pos} {Q : Fl → M → List Cell → Prop} (n : Nat) (hw : WhileP C H env test body Q n m σ) : W1 C H env (.While test body [] pos) m σ Q := fun A s ρ P => by
  refine wpAny_While (codeAny_whileLoop (WhAt C H env test body Q s ρ) ?_ n ⟨m, s.heap, s.toks, ρ, σ, rfl, .refl, P.st, P.fm, hw⟩)
  rintro n s' ⟨m₁, h₁, t₁, ρ₁, σ₁, rfl, g, S, F, z⟩
  cases n with
  | zero => exact z.elim
  | succ n =>
    refine monoE (z A (up s h₁ t₁) ρ₁ ⟨P.ok, P.am, S, F⟩) fun b s₂ yy => yy.elim (P := fun s => if b = true then _ else _) fun h₂ t₂ ρ₂ σ₂ g₂ S₂ z₂ => ?_
    have F₂ := F.grow S g₂
    have gg := g.trans g₂.c (F₂.noOwn S₂)
    cases b with
    | false => exact wpAny_execs_nil ⟨.next, m₁, h₂, t₂, ρ₂, σ₂, rfl, gg, S₂, F₂, trivial, z₂⟩
    | true =>
      refine monoE (z₂ A (up s h₂ t₂) ρ₂ ⟨P.ok, P.am, S₂, F₂⟩) fun f s₃ yy => ?_
      obtain ⟨fl, m₃, h₃, t₃, ρ₃, σ₃, rfl, g₃, S₃, F₃, R₃, z₃⟩ := yy
      have g3 := gg.trans g₃ (F₃.noOwn S₃)
      have go : WhileP C H env test body Q n m₃ σ₃ → ∃ m, m < n + 1 ∧ WhAt C H env test body Q s ρ m (up s h₃ t₃) := fun z => ⟨n, Nat.lt_succ_self _, m₃, h₃, t₃, ρ₃, σ₃, rfl, g3, S₃, F₃, z⟩
      have fin : ∀ f fl, FlRep C h₃ ρ₃ f fl → Q fl m₃ σ₃ → Ran C env s ρ Q f (up s h₃ t₃) := fun f fl R z => ⟨fl, m₃, h₃, t₃, ρ₃, σ₃, rfl, g3, S₃, F₃, R, z⟩
      cases f <;> cases fl <;> first
        | exact R₃.elim
        | exact go z₃
        | exact fin .next .next trivial z₃
        | exact fin _ _ R₃ z₃
theorem exec_Assign1 (t : Expr) (value : Expr) (pos : Pos) (hs : swapsWith value (some t) pos.line env = pure false) (hss : swappedStores [t] value env = pure none) (ht : assignEach [t] env = [(false, assign t env)]) :
    exec (.Assign [t] value pos) env = (do standAt pos; let v ← eval value env; assign t env v; pure .next) := by
  have e : exec (.Assign [t] value pos) env = (do
      standAt pos
      if ← swapsWith value (some t) pos.line env then do
        evalThenUse value env fun v => assignAll v ((assignEach [t] env).map (·.2))
        pure .next
      else do
        let v ← eval value env
        assignStores env v (← swappedStores [t] value env) ((assignEach [t] env).map (·.2))) := by
    cases value <;> first | rfl | (cases t <;> rfl)
  rw [e, hs, hss, ht]
  rfl
theorem Ran.next {Q : Fl → M → List Cell → Prop} {s' : Shared} (x : Ran C env s ρ (fun _ m σ => Q .next m σ) .next s') : Ran C env s ρ Q .next s' := by
  obtain ⟨fl, m', h', tk', ρ', σ', e, g', S, F, R, z⟩ := x
  cases fl <;> first | exact R.elim | exact ⟨.next, m', h', tk', ρ', σ', e, g', S, F, R, z⟩
theorem w1_assign_t {t value : Expr} {pos : Pos} {Q : Fl → M → List Cell → Prop} (hs : swapsWith value (some t) pos.line env = pure false) (hss : swappedStores [t] value env = pure none) (ht : assignEach [t] env = [(false, assign t env)])
    (hw : WL C H env value m σ fun d σ₁ => WA C H env t d m σ₁ fun m σ => Q .next m σ) : W1 C H env (.Assign [t] value pos) m σ Q := fun A s ρ P => by
  rw [exec_Assign1 t value pos hs hss ht]
  refine wpAny_bind (wpAny_standAt (wpAny_bind (mono (hw A s ρ P) fun v s₁ g₁ => g₁.andThen fun d h₁ t₁ ρ₁ σ₁ g S R z => ?_)))
  exact wpAny_bind (mono (z A _ ρ₁ v (P.grow g S) R) fun _ s₂ x => wpAny_pure (Ran.next (Ran.behind g x)))
theorem exec_AssignSwap (ts vs : List Expr) (k k' : Nat) (tp vp pos : Pos) (names : List Str) (hss : swappedStores [.Tuple ts k tp] (.Tuple vs k' vp) env = pure (some names)) :
    exec (.Assign [.Tuple ts k tp] (.Tuple vs k' vp) pos) env = (do standAt pos; let v ← eval (.Tuple vs k' vp) env; rule "assign.swapped-stores"; let items ← unpackItems v names.length none; assignInOrder (names.reverse.map fun n => bindName env n) items.reverse; pure .next) := by
  have e : exec (.Assign [.Tuple ts k tp] (.Tuple vs k' vp) pos) env = (do
      standAt pos
      let v ← eval (.Tuple vs k' vp) env
      assignStores env v (← swappedStores [.Tuple ts k tp] (.Tuple vs k' vp) env) ((assignEach [.Tuple ts k tp] env).map (·.2))) := by rfl
  rw [e, hss]
  rfl
theorem sto_all {Q : M → Prop} : ∀ (ns : List Str) (vs : List Value) (ds : List V) (m : M) (s : Shared), (∀ n ∈ ns, Sto env n) → ns.length = ds.length → Pre C H env m σ A s.heap ρ → RepL C s.heap ρ vs ds → Q (stoAll ns ds m) →
    wpAny (C.M) A (assignInOrder (ns.map fun n => bindName env n) vs) (fun _ s' => LRan C env (envW env) s ρ Q s') (fun _ _ => False) s
  | [], vs, [], m, s, hk, hl, P, R, q => by
    obtain rfl : vs = [] := R.seen
    exact wpAny_pure ⟨m, s.heap, s.toks, rfl, fun _ _ _ e => e, P.fm, q⟩
  | n :: ns, vs, d :: ds, m, s, hk, hl, P, R, q => by
    obtain ⟨v, vs, rfl, r, rs⟩ := R.seen
    show wpAny _ A (holding vs (bindName env n v) >>= fun _ => assignInOrder (ns.map fun n => bindName env n) vs) _ _ s
    refine wpAny_bind (wpAny_holding (wpAny_bindName (mono (sto_own (Q := fun m₁ => m₁ = (n, d) :: m) (hk n (.head _)) rfl P r) fun _ s₁ yy => ?_)))
    obtain ⟨m₁, h₁, t₁, rfl, k, F, rfl⟩ := yy
    refine mono (sto_all ns _ ds _ (up s h₁ t₁) (fun n hn => hk n (.tail _ hn)) (Nat.succ.inj hl) ⟨P.ok, P.am, P.st.locals (fun _ q => q) F k, F⟩ (rs.carry (locals_carry (fun _ q => q) F k)) q) fun _ s₂ yy => ?_
    obtain ⟨m₂, h₂, t₂, e, k', F', z'⟩ := yy
    exact ⟨m₂, h₂, t₂, e, fun b o n q => k' b o n (k b o n q), F', z'⟩
  | [], _, _ :: _, _, _, _, hl, _, _, _ => nomatch hl
  | _ :: _, _, [], _, _, _, hl, _, _, _ => nomatch hl
theorem RepL.reverse {ws : List Value} {ds : List V} (r : RepL C h ρ ws ds) : RepL C h ρ ws.reverse ds.reverse :=
  r.ind (P := fun ws ds => RepL C h ρ ws.reverse ds.reverse) .nil fun a _ k => by rw [List.reverse_cons, List.reverse_cons]; exact k.append (.cons a .nil)
theorem w1_assign_swap {ts vs : List Expr} {k k' : Nat} {tp vp pos : Pos} {Q : Fl → M → List Cell → Prop} (names : List Str) (hss : swappedStores [.Tuple ts k tp] (.Tuple vs k' vp) env = pure (some names)) (hk : ∀ n ∈ names, Sto env n)
    (hw : WL C H env (.Tuple vs k' vp) m σ fun d σ₁ => ∃ ds, d = .tup ds ∧ names.length = ds.length ∧ Q .next (stoAll names.reverse ds.reverse m) σ₁) : W1 C H env (.Assign [.Tuple ts k tp] (.Tuple vs k' vp) pos) m σ Q := fun A s ρ P => by
  rw [exec_AssignSwap ts vs k k' tp vp pos names hss]
  refine wpAny_bind (wpAny_standAt (wpAny_bind (mono (hw A s ρ P) fun v s₁ g₁ => g₁.andThen fun d h₁ t₁ ρ₁ σ₁ g S R yy => ?_)))
  obtain ⟨ds, rfl, hl, q⟩ := yy
  obtain ⟨a, ws, kk, rfl, e1, r1⟩ := tup_of R
  refine wpAny_bind (wpAny_rule (wpAny_bind ?_))
  rw [hl.trans r1.size.symm]
  refine wpAny_unpackItems_tuple P.am.hd ⟨_, e1, rfl, kk, rfl⟩ fun h' hx => ?_
  have kf : Full h₁ h' := fun b o e => hx b o (Nat.ne_of_lt (Heap.lt_size e)) e
  have P₁ := (P.grow g S).grow kf.grow (S.full kf)
  refine wpAny_bind (mono (sto_all (Q := fun m => Q .next m σ₁) names.reverse _ ds.reverse m (up s h' t₁) (fun n hn => hk n (List.mem_reverse.mp hn)) (by rw [List.length_reverse, List.length_reverse]; exact hl) P₁ (r1.grow kf.grow).reverse q) fun _ s₂ x => wpAny_pure ?_)
  obtain ⟨fl, m', h', tk', ρ', σ', e, g', S', F, R, rfl, rfl, z⟩ := x.ran (fun _ q => q) P₁.st
  exact Ran.behind (g.trans kf.grow) (tk := t₁) ⟨.next, m', h', tk', ρ', _, e, g', S', F, R, z⟩
theorem wl_sub {value slice : Expr} {pos : Pos} {Q : V → List Cell → Prop} (hsl : ∀ o i, subscripted slice false o i = operate [o, i] (getItem o i)) (hw : WL C H env value m σ fun o σ₁ => WL C H env slice m σ₁ fun i σ₂ => Iop C H o i σ₂ Q) : WL C H env (.Subscript value slice pos) m σ Q := fun A s ρ P => by
  refine Subscript_ (mono (hw A s ρ P) fun vo s₁ g₁ => g₁.andThen fun o h₁ t₁ ρ₁ σ₁ g S R z => ?_)
  refine mono (z A _ ρ₁ (P.grow g S)) fun vi s₂ g₂ => g₂.andThen fun i h₂ t₂ ρ₂ σ₂ g' S' R' z' => ?_
  obtain ⟨T, id, hT, hl, hg⟩ := z' A (up s h₂ t₂) ρ₂ vo vi ⟨P.ok, P.am, S'⟩ (R.grow g') R'
  exact tail_any hT hl (mono hg fun v s' x => (Got.trans (s := (up s h₁ t₁)) g' x).trans g) (hsl vo vi)
theorem int63 {k : Int} (hb : -100000 < k ∧ k < 100000) : -(2 ^ 63) ≤ k ∧ k < 2 ^ 63 := ⟨Int.le_trans (by decide) (Int.le_of_lt hb.1), Int.lt_trans hb.2 (by decide)⟩
theorem iop_tup {xs : List V} {k : Int} {j : Nat} {x : V} {Q : V → List Cell → Prop} (hj : seqIndex? k xs.length = some j) (hb : -100000 < k ∧ k < 100000) (hx : xs[j]? = some x) (q : Q x σ) : Iop C H (.tup xs) (.int k) σ Q := fun A s ρ vo vi P R R' => by
  obtain ⟨a, vs, n, rfl, e1, r1⟩ := tup_of R
  obtain ⟨t, rfl⟩ := R'.sees
  obtain ⟨v, hv, rv⟩ := r1.at_ hx
  exact ⟨"tuple", _, ⟨_, e1, rfl⟩, slot_tuple_getitem.lookup, PySem.P.getItem_tuple e1 (int63 hb).1 (int63 hb).2 (r1.size ▸ hj) hv (Got.here (tk := s.toks) P.st rv q)⟩
theorem seq_some {k : Int} {n j : Nat} (h : seqIndex? k n = some j) : (k < 0 ∧ -(n : Int) ≤ k ∧ j = (k + n).toNat) ∨ (0 ≤ k ∧ j = k.toNat) := by
  unfold seqIndex? at h
  by_cases k0 : k < 0
  · rw [if_pos k0] at h
    by_cases c : (0 ≤ k + (n : Int) && decide (k + (n : Int) < n)) = true
    · exact .inl ⟨k0, by have := of_decide_eq_true (Bool.and_eq_true_iff.mp c).1; omega, (Option.some.inj ((if_pos c).symm.trans h)).symm⟩
    · exact nomatch (if_neg c).symm.trans h
  · rw [if_neg k0] at h
    by_cases c : (0 ≤ k && decide (k < (n : Int))) = true
    · exact .inr ⟨Int.not_lt.mp k0, (Option.some.inj ((if_pos c).symm.trans h)).symm⟩
    · exact nomatch (if_neg c).symm.trans h
theorem iop_lst {d : V} {xs : List V} {k : Int} {j : Nat} {x : V} {Q : V → List Cell → Prop} (e : Holds σ d xs) (nt : isTup d = false) (hj : seqIndex? k xs.length = some j) (hb : -100000 < k ∧ k < 100000) (hx : xs[j]? = some x) (q : Q x σ) : Iop C H d (.int k) σ Q := fun A s ρ vo vi P R R' => by
  obtain ⟨a, vs, n, rfl, e1, r1⟩ := lst_of P.st R e nt
  obtain ⟨t, rfl⟩ := R'.sees
  obtain ⟨v, hv, rv⟩ := r1.at_ hx
  have hl : s.heap.IsList a vs.toArray := ⟨_, e1, rfl, n, rfl⟩
  refine ⟨"list", _, hl.typeIs, list_getitem_lookup, ?_⟩
  rw [← r1.size] at hj
  rcases seq_some hj with ⟨k0, k1, rfl⟩ | ⟨k0, rfl⟩
  · exact wpAny_getItem_list_neg hl k0 k1 (int63 hb).1 hv (Got.here (tk := s.toks) P.st rv q)
  · exact wpAny_getItem_list hl k0 (int63 hb).2 hv (Got.here (tk := s.toks) P.st rv q)
theorem iop_dict {d : V} {xs : List (Str × V)} {k : Str} {x : V} {Q : V → List Cell → Prop} (e : HoldsD σ d xs) (hx : xs.lookup k = some x) (q : Q x σ) : Iop C H d (.str k) σ Q := fun A s ρ vo vi P R R' => by
  obtain ⟨a, o, kvs, rfl, ho, hi, rk, ne⟩ := dict_of_holds P.st R e
  obtain ⟨t, rfl, _⟩ := R'.sees
  have hm := Heap.DictOf.mapOf (Heap.dictOf_iff.mpr ⟨o, ho, hi⟩)
  obtain ⟨v, hv, rv⟩ := rk.lookup hx
  exact ⟨"dict", _, hm.typeIs, slot_dict_getitem.lookup, wpAny_getItem_of (strKind_is C.prog C.w k t) hm hv (Got.here P.st rv q)⟩
end

section
variable {C : Cx} {H : Nat} {env : Env} {m m' : M} {σ σ' : List Cell} {A : Around} {h h' : Heap} {ρ ρ' : Rg} {s : Shared}
theorem slicePart_any {v : Value} {k : Option Int} {Q : Option Int → Shared → Prop} (p : IsPart v k) (h : Q k s) : wpAny (C.M) A (Builtin.Slice.slicePartIndex v) Q (fun _ _ => False) s := by
  cases p with
  | none => exact slicePart_none h
  | int i t => exact slicePart_int h
theorem adjust_any (lo hi : Option Int) (n : Nat) : Builtin.Slice.sliceAdjust lo hi 1 (n : Int) = (((lo.elim 0 (clipAt n) : Nat) : Int), ((hi.elim n (clipAt n) : Nat) : Int)) := by
  have cl : ∀ i : Int, (if i < 0 then max (i + n) 0 else min i n) = ((clipAt n i : Nat) : Int) := fun i => by
    rw [clipAt_cast]
    by_cases h : i < 0
    · rw [if_pos h, if_pos h, Int.min_eq_left (Int.le_trans (Int.add_le_add_right (Int.le_of_lt h) _) (Int.le_of_eq (Int.zero_add _)))]; exact Int.max_comm _ _
    · rw [if_neg h, if_neg h]; exact (Int.max_eq_right (Int.le_min.mpr ⟨Int.not_lt.mp h, Int.natCast_nonneg n⟩)).symm
  exact Prod.ext (by cases lo with | none => exact rfl | some i => exact cl i) (by cases hi with | none => exact rfl | some i => exact cl i)
theorem places_any (a b : Nat) : Builtin.Slice.slicePlaces (a : Int) (b : Int) 1 = b - a := by
  unfold Builtin.Slice.slicePlaces
  rw [if_pos (by decide)]
  by_cases h : (a : Int) < b
  · rw [if_pos h, Int.ediv_one, Int.sub_add_cancel]; exact Int.toNat_sub b a
  · rw [if_neg h]; exact (Nat.sub_eq_zero_of_le (Int.ofNat_le.mp (Int.not_lt.mp h))).symm
theorem sliceApplied_any {sl : Addr} {n : Nat} {vl vu : Value} {lo hi : Option Int} {Q : Int × Int × Nat → Shared → Prop} (hs : s.heap.IsSliceOf sl vl vu .none) (pl : IsPart vl lo) (pu : IsPart vu hi)
    (h : Q (((lo.elim 0 (clipAt n) : Nat) : Int), 1, hi.elim n (clipAt n) - lo.elim 0 (clipAt n)) s) : wpAny (C.M) A (Builtin.Slice.sliceApplied (.ref sl) (pure (n : Int))) Q (fun _ _ => False) s := by
  obtain ⟨os, hos, hcs, hds⟩ := id hs
  unfold Builtin.Slice.sliceApplied Builtin.Slice.sliceFields
  refine wpAny_bind (wpAny_bind (wpAny_field hos hds (x := vl) rfl (wpAny_bind (wpAny_field hos hds (x := vu) rfl (wpAny_bind (wpAny_field hos hds (x := .none) rfl (wpAny_pure ?_)))))))
  refine wpAny_bind (slicePart_none ?_)
  show wpAny _ _ (if ((1 : Int) == 0) = true then _ else _) _ _ s
  rw [if_neg (by decide)]
  refine wpAny_bind (slicePart_any pl (wpAny_bind (slicePart_any pu (wpAny_bind (wpAny_pure ?_)))))
  show wpAny _ _ (match Builtin.Slice.sliceAdjust lo hi 1 (n : Int) with | (lo, hi) => pure (lo, (1 : Int), Builtin.Slice.slicePlaces lo hi 1)) _ _ s
  rw [adjust_any]
  show wpAny _ _ (pure ((_ : Int), (1 : Int), Builtin.Slice.slicePlaces _ _ 1)) _ _ s
  rw [places_any]
  exact wpAny_pure h
theorem pick_any (xs : Array Value) (a c : Nat) : ((List.range c).filterMap fun (k : Nat) => xs[((a : Int) + (k : Int) * 1).toNat]?).toArray = ((xs.toList.drop a).take c).toArray := by
  rw [show (fun (k : Nat) => xs[((a : Int) + (k : Int) * 1).toNat]?) = (fun x => xs[x]?) ∘ fun x => a + x from funext fun k => by rw [Int.mul_one]; rfl, ← List.filterMap_map, pick_run xs a c]
theorem slc_sub {α : Type} (xs : List α) (lo hi : Option Int) : (slc xs lo hi).Sublist xs := (List.take_sublist _ _).trans (List.drop_sublist _ _)
theorem getItem_tuple_any {t sl : Addr} {items : Array Value} {vl vu : Value} {lo hi : Option Int} {Q : Value → Shared → Prop} (ht : IsTup s.heap t items) (hs : s.heap.IsSliceOf sl vl vu .none) (pl : IsPart vl lo) (pu : IsPart vu hi) (hsz : items.size ≤ sizeLine)
    (h1 : slc items.toList lo hi = items.toList → Q (.ref t) s) (h2 : Q (.ref s.heap.objs.size) { s with heap := s.heap.push { cls := .type "tuple", data := .seq (slc items.toList lo hi).toArray } }) :
    wpAny (C.M) A (getItem (.ref t) (.ref sl)) Q (fun _ _ => False) s := by
  have es : slc items.toList lo hi = (items.toList.drop (lo.elim 0 (clipAt items.size))).take (hi.elim items.size (clipAt items.size) - lo.elim 0 (clipAt items.size)) := by unfold slc; rw [Array.length_toList]
  have hdrop : sizeOk (.seq (slc items.toList lo hi).toArray) := Nat.le_trans (by rw [List.size_toArray]; exact (slc_sub items.toList lo hi).length_le) hsz
  obtain ⟨os, hos, hcs, hds⟩ := id hs
  have hTs : s.TypeIs (.ref sl) "slice" := ⟨os, hos, hcs⟩
  unfold getItem
  try with_reducible refine wpAny_holding ?_
  first | refine wpAny_bind (wpAny_pure ?_) | skip
  refine wpAny_bind (wpAny_sequenceKey ht.typeIs (by decide) ?_)
  refine wpAny_bind (wpAny_callSpecial?_slot (name := Str.ofString "__getitem__") ht.typeIs slot_tuple_getitem
    (wpAny_call_entry slot_tuple_getitem ht.typeIs entry_tuple_getitem ?_ (args_tuple_getitem _ _)))
  show wpAny _ _ (Builtin.Tuple.tupleItemsOf (.ref t) >>= _) _ _ s
  refine wpAny_bind (tupleItemsOf_ ht ?_)
  refine wpAny_bind (wpAny_typeOf hTs ?_)
  rw [if_pos (by decide)]
  refine wpAny_bind (sliceApplied_any hs pl pu ?_)
  show wpAny _ _ (if (((lo.elim 0 (clipAt items.size) : Nat) : Int) == 0 && (1 : Int) == 1 && (hi.elim items.size (clipAt items.size) - lo.elim 0 (clipAt items.size)) == items.size) = true then _ else _) _ _ s
  by_cases w : (((lo.elim 0 (clipAt items.size) : Nat) : Int) == 0 && (1 : Int) == 1 && (hi.elim items.size (clipAt items.size) - lo.elim 0 (clipAt items.size)) == items.size) = true
  · rw [if_pos w]
    have w := Bool.and_eq_true_iff.mp w
    have q := h1 (by
      rw [es, beq_iff_eq.mp w.2, Int.ofNat_eq_zero.mp (beq_iff_eq.mp (Bool.and_eq_true_iff.mp w.1).1), List.drop_zero]
      exact List.take_of_length_le (Nat.le_of_eq Array.length_toList))
    refine wpAny_bind (m := Builtin.Tuple.tupleIsExact _) ?_
    unfold Builtin.Tuple.tupleIsExact
    refine wpAny_bind (wpAny_typeOf ht.typeIs (wpAny_pure ?_))
    rw [if_pos (by decide)]
    refine wpAny_bind (wpAny_rule ?_)
    first
      | exact wpAny_pure ⟨_, rfl, wpAny_pure q⟩
      | exact wpAny_bind (wpAny_pure (wpAny_pure ⟨_, rfl, wpAny_pure q⟩))
      | exact wpAny_bind (wpAny_pure ⟨_, rfl, wpAny_pure q⟩)
  · rw [if_neg w, pick_any, ← es]
    first
      | exact wpAny_bind (m := Builtin.Tuple.tupleExact _) (wpAny_newObj_type (wpAny_pure ⟨_, rfl, wpAny_pure h2⟩) hdrop)
      | exact wpAny_bind (m := Builtin.Tuple.tupleExact _) (wpAny_newObj_type (wpAny_bind (wpAny_pure (wpAny_pure ⟨_, rfl, wpAny_pure h2⟩))) hdrop)
      | exact wpAny_bind (wpAny_bind (m := Builtin.Tuple.tupleExact _) (wpAny_newObj_type (wpAny_pure (wpAny_pure ⟨_, rfl, wpAny_pure h2⟩)) hdrop))
      | exact wpAny_bind (wpAny_bind (m := Builtin.Tuple.tupleExact _) (wpAny_newObj_type (wpAny_pure ⟨_, rfl, wpAny_pure h2⟩) hdrop))
theorem RepL.slc {vs : List Value} {ds : List V} (r : RepL C h ρ vs ds) (lo hi : Option Int) : RepL C h ρ (Mine.slc vs lo hi) (Mine.slc ds lo hi) := by
  unfold Mine.slc
  rw [r.length]
  exact (r.drop _).take _
def slcV (σ : List Cell) (lo hi : Option Int) (d r : V) : Prop := ∃ xs, Holds σ d xs ∧ xs.length ≤ 100000 ∧ r = cond (isTup d) (.tup (slc xs lo hi)) (.lst (slc xs lo hi))
inductive PartAt (C : Cx) (s : Shared) (ρ : Rg) (Q : Option Int → List Cell → Prop) (v : Value) (s' : Shared) : Prop
  | mk (k : Option Int) (h' : Heap) (tk : Nat) (ρ' : Rg) (σ' : List Cell) (e : s' = up s h' tk) (g : Grow s.heap ρ h' ρ') (S : St C h' ρ' σ') (p : IsPart v k) (q : Q k σ')
theorem part_run {e : Option Expr} {Q : Option Int → List Cell → Prop} (P : Pre C H env m σ A s.heap ρ) (w : PartP C H env e m σ Q) :
    wpAny (C.M) A (evalPart e env) (fun v s' => PartAt C s ρ Q v s') (fun _ _ => False) s := by
  cases e with
  | none => exact wpAny_pure ⟨none, s.heap, s.toks, ρ, σ, rfl, .refl, P.st, .none, w⟩
  | some e =>
    refine mono (w A s ρ P) fun v s₁ yy => ?_
    obtain ⟨d, h₁, t₁, ρ₁, σ₁, e, g, S, R, i, rfl, q⟩ := yy
    obtain ⟨t, rfl⟩ := R.sees
    exact ⟨_, h₁, t₁, ρ₁, σ₁, e, g, S, .int _ _, q⟩
theorem wl_slice {value : Expr} {lower upper : Option Expr} {p pos : Pos} {Q : V → List Cell → Prop} (hw : WL C H env value m σ fun o σ₁ => PartP C H env lower m σ₁ fun lo σ₂ => PartP C H env upper m σ₂ fun hi σ₃ => ∃ r, slcV σ₃ lo hi o r ∧ Q r σ₃) : WL C H env (.Subscript value (.Slice lower upper none p) pos) m σ Q := fun A s ρ P => by
  refine Subscript_ (mono (hw A s ρ P) fun vo s₁ g₁ => g₁.andThen fun o h₁ t₁ ρ₁ σ₁ g S R z => wpAny_Slice ?_)
  refine mono (part_run (s := (up s h₁ t₁)) (P.grow g S) z) fun vl s₂ yy => ?_
  obtain ⟨lo, h₂, t₂, ρ₂, σ₂, rfl, g₂, S₂, pl, z₂⟩ := yy
  refine mono (part_run (s := (up s h₂ t₂)) ((P.grow g S).grow g₂ S₂) z₂) fun vu s₃ yy => ?_
  obtain ⟨hi, h₃, t₃, ρ₃, σ₃, rfl, g₃, S₃, pu, r, ⟨xs, hx, lx, er⟩, q⟩ := yy
  rw [evalPart_none]
  refine wpAny_pure ?_
  generalize hH : h₃.push { cls := .type "slice", data := .fields #[vl, vu, .none] } = h₄
  have kf : Full h₃ h₄ := hH ▸ Full.push _
  have S₄ := S₃.full kf
  have R₄ := ((R.grow g₂).grow g₃).grow kf.grow
  have gg : Grow s.heap ρ h₄ ρ₃ := ((g.trans g₂).trans g₃).trans kf.grow
  have hsl : h₄.IsSliceOf h₃.objs.size vl vu .none := hH ▸ Heap.IsSliceOf.new ..
  rcases @tup_or o with ⟨l, rfl⟩ | nt
  · obtain rfl : l = xs := hx
    obtain rfl : r = .tup (slc l lo hi) := er
    obtain ⟨a, vs, n, rfl, e1, r1⟩ := tup_of R₄
    refine tail_any (T := "tuple") ⟨_, e1, rfl⟩ slot_tuple_getitem.lookup (getItem_tuple_any (s := (up s h₄ t₃)) ⟨_, e1, rfl, n, rfl⟩ hsl pl pu (r1.fits (Nat.le_trans lx (by decide))) (fun ew => ?_) ?_) rfl
    · have ew : Mine.slc vs lo hi = vs := ew
      have e : slc l lo hi = l := (slc_sub l lo hi).eq_of_length ((r1.slc lo hi).length.symm.trans ((congrArg List.length ew).trans r1.length))
      exact Got.trans (tk := t₃) gg (Got.here (tk := t₃) S₄ R₄ (e ▸ q))
    · exact Got.trans (tk := t₃) gg (got_tup (s := up s h₄ t₃) S₄ (r1.slc lo hi) q)
  · rw [nt] at er
    obtain rfl : r = .lst (slc xs lo hi) := er
    obtain ⟨a, vs, n, rfl, e1, r1⟩ := lst_of S₄ R₄ hx nt
    refine tail_any (T := "list") ⟨_, e1, rfl⟩ list_getitem_lookup (wpAny_getItem_list_slice (s := (up s h₄ t₃)) ⟨_, e1, rfl, n, rfl⟩ hsl pl pu .none nofun ?_ (r1.fits (Nat.le_trans lx (by decide)))) rfl
    rw [slicePick_plain]
    exact Got.trans (tk := t₃) gg (got_lst (s := up s h₄ t₃) S₄ (r1.slc lo hi) q)
end

def putK {α : Type} : List (Str × α) → Str → α → List (Str × α)
  | [], k, v => [(k, v)]
  | (k', v') :: r, k, v => if k' = k then (k', v) :: r else (k', v') :: putK r k v
theorem putK_stored : ∀ (kvs : List (Str × Value)) (k : Str) (v : Value), (kvs.map (·.1)).Nodup → stored kvs k v = putK kvs k v
  | [], k, v, _ => rfl
  | (k', v') :: r, k, v, nd => by
    obtain ⟨h1, h2⟩ := List.nodup_cons.mp nd
    have ih := putK_stored r k v h2
    unfold putK
    by_cases q : k' = k
    · subst q
      rw [if_pos rfl]
      unfold stored
      rw [if_pos (by simp)]
      rw [List.map_cons, if_pos rfl]
      congr 1
      refine map_eq_self fun x hx => if_neg fun e => h1 (List.mem_map.mpr ⟨x, hx, e⟩)
    · rw [if_neg q, ← ih]
      unfold stored
      simp only [List.any_cons, q, decide_false, Bool.false_or, List.map_cons, if_false]
      split <;> rfl
section
variable {C : Cx} {h : Heap} {ρ : Rg}
theorem RepK.put {kvs : List (Str × Value)} {ds : List (Str × V)} {k : Str} {v : Value} {d : V} (b : RepK C h ρ kvs ds) (r : Rep C h ρ v d) : RepK C h ρ (putK kvs k v) (putK ds k d) :=
  b.ind (P := fun kvs ds => RepK C h ρ (putK kvs k v) (putK ds k d)) (.cons r .nil) fun {k' _ _ _ _} a b ih => by
    unfold putK
    by_cases q : k' = k
    · rw [if_pos q, if_pos q]; exact .cons r b
    · rw [if_neg q, if_neg q]; exact .cons a ih
theorem isStr_of {k : Str} {v : Value} (e : (C.sk).is k v = true) (n : Str) : v.isStr n = decide (k = n) := by
  obtain ⟨t, rfl⟩ := Value.isStrOf_shape e
  by_cases q : k = n
  · subst q; simp [Value.isStr]
  · have : ¬ n = k := fun z => q z.symm
    simp [Value.isStr, q]
theorem lookIn_of {o : Obj} {kvs : List (Str × Value)} (i : o.IsDictOf (C.sk) kvs) (n : Str) : lookIn n o = some (valueAt kvs n) := by
  obtain ⟨es, ep, _, hd, hk, hp, nd⟩ := i
  unfold lookIn
  rw [hd]
  dsimp only
  have nr : es.toList.any (·.refKey) = false := by
    rw [List.any_eq_false]
    intro e he
    obtain ⟨k, hkk, _⟩ := hk e (Array.mem_toList_iff.mp he)
    obtain ⟨t, ht⟩ := Value.isStrOf_shape hkk
    simp [DictEntry.refKey, ht]
  have go : ∀ (es : List DictEntry) (kvs : List (Str × Value)), Pairs (C.sk) es kvs → (es.find? (·.key.isStr n)).map (·.val) = valueAt kvs n := by
    intro es kvs p
    induction p with
    | nil => rfl
    | cons a b c ih =>
      rename_i e kv es' kvs'
      rw [List.find?_cons, isStr_of a]
      unfold valueAt at ih ⊢
      rw [List.find?_cons]
      by_cases q : kv.1 = n
      · simp [q, b]
      · simp only [q, decide_false]; exact ih
  have := go _ _ hp
  cases q : es.toList.find? (·.key.isStr n) with
  | some e => rw [q] at this; rw [← this]; rfl
  | none => rw [q] at this; rw [← this, nr]; rfl
theorem valueAt_lookup {kvs : List (Str × Value)} {ds : List (Str × V)} {n : Str} (r : RepK C h ρ kvs ds) (e : ds.lookup n = none) : valueAt kvs n = none := by
  have := valueAt_isSome r n
  rw [e] at this
  exact Option.isSome_eq_false_iff.mp this |> Option.isNone_iff_eq_none.mp
theorem putName_is {o : Obj} {kvs : List (Str × Value)} {n : Str} {v : Value} {tk : Tok} (i : o.IsDictOf (C.sk) kvs) :
    (o.putName n (PyData.keyHash C.w.params n) (.str n tk) v).IsDictOf (C.sk) (putK kvs n v) ∧ o.isFreed = false ∧ (o.putName n (PyData.keyHash C.w.params n) (.str n tk) v).isFreed = false ∧ ∃ es ep, o.data = .dict es ep ∧ (!es.any (·.key.isStr n) && es.any (·.refKey)) = false ∧ ∃ es' ep', (o.putName n (PyData.keyHash C.w.params n) (.str n tk) v).data = .dict es' ep' ∧ es'.size ≤ kvs.length + 1 := by
  obtain ⟨es, ep, ex, hd, hk, hp, nd⟩ := i
  obtain ⟨c, dd, dt, sl⟩ := o
  dsimp only at hd
  subst hd
  have e1 : es.size = kvs.length := by have := hp.length; simpa using this
  have hf : (fun e : DictEntry => e.key.isStr n) = fun e => (C.sk).is n e.key := by
    funext e
    cases e.key <;> rfl
  have hidx : (es.findIdx? fun e => e.key.isStr n) = kvs.findIdx? fun kv => decide (kv.1 = n) := by
    rw [hf, ← hp.findIdx n]; obtain ⟨l⟩ := es; simp
  have nr : es.any (·.refKey) = false := by
    rw [Array.any_eq_false']
    intro e he
    obtain ⟨k, hkk, _⟩ := hk e he
    obtain ⟨t, ht⟩ := Value.isStrOf_shape hkk
    simp [DictEntry.refKey, ht]
  have hkey : (C.sk).is n (.str n tk) = true := strKind_is C.prog C.w n tk
  have hh : PyData.keyHash C.w.params n = (C.sk).hash n := rfl
  obtain ⟨ec, ed, el⟩ := ex
  dsimp only at ec ed el
  subst ec ed el
  rw [Obj.putName_eq]
  unfold Obj.putNameByArray
  dsimp only
  rw [← putK_stored _ _ _ nd]
  cases hi : es.findIdx? fun e => e.key.isStr n with
  | some i =>
    dsimp only
    have any : kvs.any (fun kv => decide (kv.1 = n)) = true := any_of_findIdx_some (hidx ▸ hi)
    refine ⟨⟨_, ep, ⟨rfl, rfl, rfl⟩, rfl, hk.modify _ _, ?_, ?_⟩, rfl, rfl, es, ep, rfl, by rw [nr, Bool.and_false], _, _, rfl, ?_⟩
    · rw [stored, if_pos any]
      have hl : (es.toList.findIdx? fun e => (C.sk).is n e.key) = some i := by rw [← hi, hf]; obtain ⟨l⟩ := es; simp
      have := hp.modify nd hl v
      obtain ⟨l⟩ := es
      simpa using this
    · rw [stored, if_pos any, keys_map_store]; exact nd
    · rw [Array.size_modify]; omega
  | none =>
    dsimp only
    have hnot : n ∉ kvs.map (·.1) := not_mem_of_findIdx_none (hidx ▸ hi)
    have hany : ¬ (kvs.any fun kv => decide (kv.1 = n)) = true := by
      rw [List.any_eq_true]; rintro ⟨kv, hkv, he⟩
      exact hnot (List.mem_map.mpr ⟨kv, hkv, of_decide_eq_true he⟩)
    refine ⟨⟨_, ep + 1, ⟨rfl, rfl, rfl⟩, rfl, hk.push hkey _, ?_, ?_⟩, rfl, rfl, es, ep, rfl, by rw [nr, Bool.and_false], _, _, rfl, ?_⟩
    · rw [stored, if_neg hany]
      have := hp.append hkey (PyData.keyHash C.w.params n) v
      obtain ⟨l⟩ := es
      simpa using this
    · rw [stored, if_neg hany, List.map_append, List.nodup_append]
      refine ⟨nd, by simp, ?_⟩
      intro a ha b hb q
      simp at hb
      rw [q, hb] at ha
      exact hnot ha
    · rw [Array.size_push]; omega
end

structure ClsK (K : Frag) (Cc : Addr) : Prop where
  hga : findIn K (.ref Cc) "__getattribute__" = some (some (.builtin "object.__getattribute__"))
  hgt : findIn K (.ref Cc) "__getattr__" = some none
  hset : findIn K (.ref Cc) "__setattr__" = some (some (.builtin "object.__setattr__"))
  cls : ∃ cd, clsIn K Cc = some cd ∧ cd.hasDict = true
  over : plainOver K Cc = true
section
variable {C : Cx} {H : Nat} {env : Env} {m m' : M} {σ σ' : List Cell} {A : Around} {h h' : Heap} {ρ ρ' : Rg} {s : Shared}
inductive Inst (C : Cx) (h : Heap) (ρ : Rg) (v : Value) (Cc : Addr) (n : Nat) (ds : List (Str × V)) : Prop
  | mk (x dx : Addr) (o : Obj) (kvs : List (Str × Value)) (ev : v = .ref x) (ha : h.get? x = some (instObj Cc dx)) (ho : h.get? dx = some o) (hi : o.IsDictOf C.sk kvs) (hr : RepK C h ρ kvs ds) (hl : ρ.l[n]? = some dx) (I : InstAt h x (instObj Cc dx) Cc (some o))
theorem inst_at {v : Value} {Cc : Addr} {n : Nat} {ds : List (Str × V)} (S : St C h ρ σ) (R : Rep C h ρ v (.obj Cc n)) (e : σ[n]? = some (.dict ds)) : Inst C h ρ v Cc n ds := by
  obtain ⟨x, dx, ev, n1, n2, hx, hn⟩ := R.sees
  obtain ⟨o, kvs, ho, hi, hr⟩ := S.cell _ _ _ hn e
  exact ⟨_, _, o, kvs, ev, hx, ho, hi, hr, hn, ⟨hx, rfl, rfl, ho⟩⟩
theorem RepK.length {kvs : List (Str × Value)} {ds : List (Str × V)} (r : RepK C h ρ kvs ds) : ds.length = kvs.length := (List.length_map _).symm.trans ((congrArg List.length r.keys.symm).trans (List.length_map _))
theorem rep_handed {v : Value} {d : V} (R : Rep C h ρ v d) : handedIn v = true := R.casesOn (motive_1 := fun v _ _ => handedIn v = true) rfl (fun _ => rfl) (fun _ _ => rfl) (fun _ _ _ => rfl) (fun _ _ _ _ => rfl) (fun _ _ _ _ => rfl) (fun _ _ _ _ _ _ => rfl) (fun _ => rfl) (fun _ _ _ _ => rfl)
theorem find_free {K : Frag} {Cc : Addr} {o : Obj} {name : Str} {v : Value} (X : ClsK K Cc) (hn : findIn K (.ref Cc) name = some none) (hl : lookIn name o = some (some v)) : findObj K Cc (some o) name = some (.value v) := by
  obtain ⟨cd, hc, hd⟩ := X.cls
  have ho : W.ownOf cd (some o) name = some (some v) := (if_pos hd).trans hl
  show (clsIn K Cc).bind _ = _
  rw [hc, Option.bind_some, hn]
  show (W.ownOf cd (some o) name).bind _ = _
  rw [ho]
  rfl
theorem wl_attr {e : Expr} {name : Str} {pos : Pos} {Q : V → List Cell → Prop} (hbase : attributeBase e name env (eval e env) = eval e env)
    (hw : WL C H env e m σ fun d σ₁ => ∃ Cc n ds x, d = .obj Cc n ∧ σ₁[n]? = some (.dict ds) ∧ ds.lookup name = some x ∧ ClsK C.K Cc ∧ findIn C.K (.ref Cc) name = some none ∧ Q x σ₁) : WL C H env (.Attribute e name pos) m σ Q := fun A s ρ P => by
  rw [arm_eval_Attribute, hbase]
  refine wpAny_bind (mono (hw A s ρ P) fun v s₁ g₁ => g₁.andThen fun d h₁ t₁ ρ₁ σ₁ g S R z => ?_)
  obtain ⟨Cc, n, ds, x, rfl, hn, hx, X, hf, q⟩ := z
  obtain ⟨a, dx, o, kvs, rfl, ha, ho, hi, hr, hl, I⟩ := inst_at S R hn
  obtain ⟨v, hv, rv⟩ := hr.lookup hx
  have hlk : lookIn name o = some (some v) := by rw [lookIn_of hi, hv]
  refine wpAny_bind (wpAny_standAt (wpAny_bind (wpAny_holding (get_value (P.ok.KB.keeps S.base) I X.hga (find_free X hf hlk) (rep_handed rv) (wpAny_bind (wpAny_letTemporaryGo (wpAny_pure ?_)))))))
  exact ⟨x, h₁, t₁ + 1, ρ₁, σ₁, rfl, g, S, rv, q⟩
theorem wl_methI {o : Expr} {name : Str} {apos pos : Pos} {es : List Expr} {Q : V → List Cell → Prop} (hbase : attributeBase o name env (eval o env) = eval o env) (hline : (apos.endLine == pos.line) = true)
    (hp : (starEach es env).any (·.1) = false) (hfew : es.length < 30)
    (hw : WL C H env o m σ fun d σ₁ => ∃ Cc n ds f, d = .obj Cc n ∧ σ₁[n]? = some (.dict ds) ∧ ds.lookup name = none ∧ ClsK C.K Cc ∧ findIn C.K (.ref Cc) name = some (some (.ref f)) ∧ typeIn C.K (.ref f) = some (.type "function") ∧ (∃ oc od fd osl, C.K.lookup f = some ⟨oc, od, .func fd, osl⟩) ∧
      WLs C H env es m σ₁ fun xs σ₂ => SC C H f (d :: xs) σ₂ Q) : WL C H env (.Call (.Attribute o name apos) es [] pos) m σ Q := fun A s ρ P => by
  rw [arm_eval_Call, hbase]
  refine wpAny_bind (mono (hw A s ρ P) fun ov s₁ g₁ => g₁.andThen fun d h₁ t₁ ρ₁ σ₁ g S R z => ?_)
  obtain ⟨Cc, n, ds, f, rfl, hn, hx, X, hf, ht, ⟨oc, od, fd, osl, hk⟩, z⟩ := z
  obtain ⟨a, dx, ob, kvs, rfl, ha, ho, hi, hr, hl, I⟩ := inst_at S R hn
  have hlk : shadowIn (some ob) name = some false := by
    show (lookIn name ob).map _ = _
    rw [lookIn_of hi, valueAt_lookup hr hx]; rfl
  have hform : methodCallForm (es.length + ([] : List Keyword).length) (backTo pos (starEach es env)) (backToKw pos (keywordEach [] env)) = true :=
    Bool.and_eq_true_iff.mpr ⟨Bool.and_eq_true_iff.mpr ⟨all_not ((backTo_plain pos es env).trans hp), rfl⟩, decide_eq_true hfew⟩
  have hpos : methodCallPos true o env apos pos = pure pos := by unfold methodCallPos; simp [hline]
  refine wpAny_bind (wpAny_standAt ?_)
  unfold methodCall
  rw [hform]
  refine wpAny_bind (wpAny_holding (method_fn (s := (up s h₁ t₁)) (P.ok.KB.keeps S.base) I X.hga X.hgt hf ht hlk ?_))
  refine wpAny_bind (wpAny_of_eq hpos ?_)
  refine callWith_function_kw (o := ⟨oc, od, .func fd, osl⟩) (fd := fd) (wl_args hp (mono (z A (up s h₁ t₁) ρ₁ pos (P.grow g S)) fun vs s₂ yy => ?_))
  obtain ⟨xs, h₂, t₂, ρ₂, σ₂, rfl, g', S', R', z'⟩ := yy
  refine ⟨⟨S'.base _ _ (P.ok.KB _ _ hk), rfl⟩, ?_⟩
  exact mono (z'.run (s := (up s h₂ t₂)) ⟨P.ok, P.am, S'⟩ (.cons (R.grow g') R')) fun v s' x => (x.trans (tk := t₂) g').trans (tk := t₁) g
theorem turn_dict {n : Nat} {dx : Addr} {o : Obj} {kvs : List (Str × Value)} {ds : List (Str × V)} {name : Str} {v : Value} {d : V} {tk : Tok} (S : St C h ρ σ) (hn : ρ.l[n]? = some dx) (ho : h.get? dx = some o) (hi : o.IsDictOf (C.sk) kvs) (hr : RepK C h ρ kvs ds) (r : Rep C h ρ v d) :
    St C (h.update dx (Obj.putName name (PyData.keyHash C.w.params name) (.str name tk) v)) ρ (σ.set n (.dict (putK ds name d))) ∧ Grow h ρ (h.update dx (Obj.putName name (PyData.keyHash C.w.params name) (.str name tk) v)) ρ := by
  obtain ⟨i', f1, f2, _⟩ := putName_is (n := name) (v := v) (tk := tk) hi
  have hs := Heap.SameBut.update h dx (Obj.putName name (PyData.keyHash C.w.params name) (.str name tk) v)
  have g : Grow h ρ (h.update dx (Obj.putName name (PyData.keyHash C.w.params name) (.str name tk) v)) ρ := ⟨⟨[], (List.append_nil _).symm⟩, rfl, fun _ m n => absurd m n, fun b o m _ e => (hs.2 b (fun q => m (q ▸ List.mem_of_getElem? hn))).trans e⟩
  have e' := Heap.get?_update_self (Obj.putName name (PyData.keyHash C.w.params name) (.str name tk) v) ho f2
  exact S.update hn hs ⟨_, _, e', i', (hr.put r).grow g⟩ ⟨_, e'⟩
theorem osa_turn {Cc a dx : Addr} {n : Nat} {ds : List (Str × V)} {kvs : List (Str × Value)} {o : Obj} {name : Str} {tk : Tok} {v : Value} {d : V} {R : Result → Shared → Prop} (P : Ok0 C H σ A s.heap ρ) (ha : s.heap.get? a = some (instObj Cc dx)) (ho : s.heap.get? dx = some o) (hi : o.IsDictOf (C.sk) kvs) (hr : RepK C s.heap ρ kvs ds) (hlx : ρ.l[n]? = some dx) (I : InstAt s.heap a (instObj Cc dx) Cc (some o))
    (Rv : Rep C s.heap ρ v d) (hn : σ[n]? = some (.dict ds)) (hl : ds.length ≤ 900) (X : ClsK C.K Cc) (ht : takerIn C.K Cc name = some none)
    (q : ∀ h' tk, Grow s.heap ρ h' ρ → St C h' ρ (σ.set n (.dict (putK ds name d))) → R (.ok (.ret .none)) (up s h' tk)) :
    codeAny (C.M) A (.call (.builtin "object.__setattr__") ⟨[.ref a, .str name tk, v], []⟩) R s := by
  have XK := P.ok.KB.keeps P.st.base
  refine osa_open XK I X.over ht fun b => ?_
  obtain ⟨cd, hc, hd'⟩ := X.cls
  obtain ⟨i', f1, f2, es, ep, hes, hno, es', ep', hes', hsz⟩ := putName_is (n := name) (v := v) (tk := s.toks) hi
  obtain ⟨S', g'⟩ := turn_dict (tk := s.toks) (name := name) P.st hlx ho hi hr Rv
  have D' := Heap.get?_update_self (Obj.putName name (PyData.keyHash C.w.params name) (.str name s.toks) v) ho f2
  have lenk : kvs.length ≤ 900 := hr.length ▸ hl
  refine wpAny_bind (wpAny_pure (wpAny_bind (wpAny_bind (wpAny_loadPart ha (wpAny_bind ((looks_clsIn XK hc).here ?_))))))
  rw [hd']
  refine wpAny_pure (a := some dx) (wpAny_bind (wpAny_pure (wpAny_bind ?_)))
  unfold nsSet
  refine wpAny_bind (wpAny_bind (wpAny_askSetting (wpAny_pure (wpAny_bind (wpAny_mkText (wpAny_bind (wpAny_loadPart ho ?_)))))))
  rw [hes]
  dsimp only
  rw [aRefKeyMayBeTheName_at, hno]
  refine wpAny_updatePart ho ?_
  refine wpAny_bind (wpAny_lookBehind D' (by rw [hes']; exact pastItsLine_dict (Nat.le_trans hsz (Nat.le_trans (Nat.succ_le_succ lenk) (Nat.le_trans (by decide : 901 ≤ 1000000) (Nat.le_succ_of_le size0))))) ?_)
  exact wpAny_pure (q _ _ g' S')
theorem set_attr {Cc : Addr} {n : Nat} {ds : List (Str × V)} {name : Str} {v ov : Value} {d : V} {Q : List Cell → Prop} (P : Ok0 C H σ A s.heap ρ) (R : Rep C s.heap ρ ov (.obj Cc n)) (Rv : Rep C s.heap ρ v d) (hn : σ[n]? = some (.dict ds)) (hl : ds.length ≤ 900) (X : ClsK C.K Cc) (ht : takerIn C.K Cc name = some none) (q : Q (σ.set n (.dict (putK ds name d)))) :
    wpAny (C.M) A (setAttr ov name v) (fun _ s' => URan C s ρ Q s') (fun _ _ => False) s := by
  obtain ⟨a, dx, o, kvs, rfl, ha, ho, hi, hr, hlx, I⟩ := inst_at P.st R hn
  have XK := P.ok.KB.keeps P.st.base
  refine set_plain XK I X.hset ?_
  exact osa_turn (s := (up s s.heap (s.toks + 1))) ⟨P.ok, P.am, P.st⟩ ha ho hi hr hlx I Rv hn hl X ht fun h' tk g S => ⟨h', tk, _, rfl, g, S, q⟩
theorem wa_attr {e : Expr} {name : Str} {pos : Pos} {d : V} {Q : M → List Cell → Prop}
    (hw : WL C H env e m σ fun o σ₁ => ∃ Cc n ds, o = .obj Cc n ∧ σ₁[n]? = some (.dict ds) ∧ ds.length ≤ 900 ∧ ClsK C.K Cc ∧ takerIn C.K Cc name = some none ∧ Q m (σ₁.set n (.dict (putK ds name d)))) : WA C H env (.Attribute e name pos) d m σ Q := fun A s ρ v P R => by
  rw [assign_Attribute]
  refine wpAny_bind (wpAny_holding (mono (hw A s ρ P) fun ov s₁ g₁ => g₁.andThen fun o h₁ t₁ ρ₁ σ₁ g S Ro z => ?_))
  obtain ⟨Cc, n, ds, rfl, hn, hl, X, ht, q⟩ := z
  refine wpAny_bind (wpAny_standAt (wpAny_bind (wpAny_holding (mono (set_attr (s := (up s h₁ t₁)) (Q := fun σ => Q m σ) ⟨P.ok, P.am, S⟩ Ro (R.grow g) hn hl X ht q) fun _ s₂ yy => wpAny_release ?_))))
  obtain ⟨h₂, t₂, σ₂, rfl, g₂, S₂, q₂⟩ := yy
  exact ⟨.next, m, h₂, t₂, ρ₁, σ₂, rfl, (g.trans g₂).c, S₂, (P.fm.grow P.st g).grow S g₂, trivial, q₂⟩
end

structure ClsNew (K : Frag) (Cc f : Addr) : Prop where
  mks : makesIn K Cc = true
  init : findIn K (.ref Cc) "__init__" = some (some (.ref f))
  fn : typeIn K (.ref f) = some (.type "function")
  keep : keepIn K (.ref Cc) = true
section
variable {C : Cx} {H : Nat} {env : Env} {m m' : M} {σ σ' : List Cell} {A : Around} {h h' : Heap} {ρ ρ' : Rg} {s : Shared}
theorem amb_under {c : Code} (am : Amb A (H + 1)) (hw : c.weight = 1) (hu : c.cUnits = 1) : Amb (A.under c) H :=
  amb_in (A' := A.under c) am am.hd (show A.depth + c.weight = _ by rw [hw]) (show A.units + c.cUnits ≤ _ by rw [hu]; exact Nat.add_le_add_left (by decide) _)
theorem alloc_dict (ok : C.Ok) (S : St C h ρ σ) {h'' : Heap} (k : Full (h.push emptyDict) h'') : St C h'' (ρ.snoc h.objs.size) (σ ++ [.dict []]) ∧ Grow h ρ h'' (ρ.snoc h.objs.size) := by
  have g1 := k _ _ (Heap.get?_push_size h (o := emptyDict) rfl)
  have de : emptyDict.IsDictOf (C.sk) [] := ⟨#[], 0, ⟨rfl, rfl, rfl⟩, rfl, (fun e he => absurd he (Array.not_mem_empty e)), .nil, List.nodup_nil⟩
  exact S.alloc ((Full.push _).trans k) (none_of_size (Nat.le_refl _)) (sys_size ok S) g1 (c := .dict []) ⟨emptyDict, [], g1, de, .nil⟩
theorem call_new {Cc f : Addr} {vs : List Value} {ds : List V} {Q : V → List Cell → Prop} (X : ClsNew C.K Cc f) (P : Ok0 C (H + 1) σ A s.heap ρ) (R : RepL C s.heap ρ vs ds)
    (z : SC C H f (.obj Cc σ.length :: ds) (σ ++ [.dict []]) fun d σ' => d = .none ∧ Q (.obj Cc σ.length) σ') : wpAny (C.M) A (call (.ref Cc) vs) (Got C s ρ Q) (fun _ _ => False) s := by
  obtain ⟨h, gg, dd, tt, oo⟩ := s
  have XK : C.K.In h := P.ok.KB.keeps P.st.base
  refine wpAny_call (make_core (makes_of XK X.mks) (looks_findIn XK X.init) (fun self => bind_fn XK self X.fn) (.inl rfl) ?_)
  have S : St C h ρ σ := P.st
  have k2 : Full (h.push emptyDict) ((h.push emptyDict).push (instObj Cc h.objs.size)) := Full.push _
  have f2 : h.get? (h.objs.size + 1) = none := none_of_size (Nat.le_succ _)
  have sz : (h.push emptyDict).objs.size = h.objs.size + 1 := Heap.size_push ..
  have g2 : ((h.push emptyDict).push (instObj Cc h.objs.size)).get? (h.objs.size + 1) = some (instObj Cc h.objs.size) := sz ▸ Heap.get?_push_size _ rfl
  obtain ⟨S', g'⟩ := alloc_dict P.ok S k2
  have ro : Rep C ((h.push emptyDict).push (instObj Cc h.objs.size)) (ρ.snoc h.objs.size) (.ref (h.objs.size + 1)) (.obj Cc σ.length) :=
    .obj (fun q => (mem_snoc q).elim (S.new f2).2.1 (Nat.succ_ne_self _)) (S.new f2).2.2 g2 (S.len ▸ List.getElem?_concat_length)
  have am : Amb (A.under (.builtin "type.__call__" ⟨.ref Cc :: vs, []⟩)) H := amb_under P.am (by kernel_rfl) (by kernel_rfl)
  refine codeAny_mono (z _ { heap := _, gens := gg, drawn := dd, toks := tt, os := oo } (ρ.snoc h.objs.size) _ ⟨P.ok, am, S'⟩ (.cons ro (R.grow g'))) fun r s' hr => ?_
  rcases r with e | (v | _ | _ | _) <;> first | exact hr.elim | skip
  obtain ⟨d, h', tk, ρ', σ', e, g, S'', Rd, ed, q⟩ := hr
  subst ed
  obtain rfl := Rd.sees
  exact ⟨rfl, _, h', tk, ρ', σ', e, g'.trans g, S'', ro.grow g, q⟩
theorem wl_new {x : Str} {fp pos : Pos} {e : Expr} {es : List Expr} {Cc f : Addr} {Q : V → List Cell → Prop} (o : Out env x) (g : Glo C x (.ref Cc)) (X : ClsNew C.K Cc f) (he : starEach (e :: es) env = (false, eval e env) :: starEach es env) (hp : (starEach es env).any (·.1) = false)
    (hw : WLs C (H + 1) env (e :: es) m σ fun ds σ₁ => SC C H f (.obj Cc σ₁.length :: ds) (σ₁ ++ [.dict []]) fun d σ' => d = .none ∧ Q (.obj Cc σ₁.length) σ') : WL C (H + 1) env (.Call (.Name x fp) (e :: es) [] pos) m σ Q := fun A s ρ P => by
  show wpAny _ A (eval (.Name x fp) env >>= fun v => callWith pos v [] (backTo pos (starEach (e :: es) env)) (backToKw pos (keywordEach [] env))) _ _ s
  refine wpAny_bind (glo_name P o g (callWith_K (K := C.K) (P.ok.KB.keeps P.st.base) X.keep (mono (hw A s ρ pos P) fun vs s₁ yy => ?_) he ((backTo_plain pos es env).trans hp)))
  obtain ⟨ds, h₁, t₁, ρ₁, σ₁, rfl, g, S, R, z⟩ := yy
  exact ⟨P.ok.KB.keeps S.base, mono (call_new (s := (up s h₁ t₁)) X ⟨P.ok, P.am, S⟩ R z) fun v s' x => x.trans g⟩
theorem uop_dict {n : Nat} {ds : List (Str × V)} {k : Str} {d : V} {Q : List Cell → Prop} (e : σ[n]? = some (.dict ds)) (l : ds.length ≤ 900) (q : Q (σ.set n (.dict (putK ds k d)))) : Uop C H (.loc n) (.str k) d σ Q := fun A s ρ vo vi vd P R R' Rd => by
  obtain ⟨a, o, kvs, rfl, ho, hi, hr, hl⟩ := dict_at P.st R e
  obtain ⟨t, rfl, _⟩ := R'.sees
  have nd : (kvs.map (·.1)).Nodup := by obtain ⟨_, _, _, _, _, _, nd⟩ := hi; exact nd
  refine wpAny_setItem_pairs (strKind_is C.prog C.w k t) (Heap.dictOf_iff.mpr ⟨o, ho, hi⟩) (fun h' hd hs => ?_) (Nat.le_trans (hr.length ▸ l) (Nat.le_trans (by decide) size0))
  obtain ⟨o', ho', hi'⟩ := Heap.dictOf_iff.mp hd
  rw [putK_stored _ _ _ nd] at hi'
  have g : Grow s.heap ρ h' ρ := ⟨⟨[], (List.append_nil _).symm⟩, rfl, fun _ m n => absurd m n, fun b o m _ e => (hs.2 b (fun q => m (q ▸ List.mem_of_getElem? hl))).trans e⟩
  obtain ⟨S', g'⟩ := P.st.update (c := .dict (putK ds k d)) hl hs ⟨o', _, ho', hi', (hr.put Rd).grow g⟩ ⟨o', ho'⟩
  exact ⟨h', s.toks + 1, _, rfl, g', S', q⟩
theorem wa_sub {o i : Expr} {pos : Pos} {d : V} {Q : M → List Cell → Prop}
    (hw : WL C H env o m σ fun ov σ₁ => WL C H env i m σ₁ fun iv σ₂ => Uop C H ov iv d σ₂ fun σ₃ => Q m σ₃) : WA C H env (.Subscript o i pos) d m σ Q := fun A s ρ v P R => by
  rw [assign_Subscript]
  refine wpAny_bind (wpAny_holding (mono (hw A s ρ P) fun ov s₁ g₁ => g₁.andThen fun o h₁ t₁ ρ₁ σ₁ g S Ro z => ?_))
  refine wpAny_bind (wpAny_holding (mono (z A (up s h₁ t₁) ρ₁ (P.grow g S)) fun iv s₂ g₂ => g₂.andThen fun i h₂ t₂ ρ₂ σ₂ g' S' Ri z' => ?_))
  refine wpAny_bind (wpAny_standAt (wpAny_bind (wpAny_holding (mono (z' A (up s h₂ t₂) ρ₂ ov iv v ⟨P.ok, P.am, S'⟩ (Ro.grow g') Ri ((R.grow g).grow g')) fun _ s₃ yy => wpAny_release ?_))))
  obtain ⟨h₃, t₃, σ₃, rfl, g₃, S₃, q₃⟩ := yy
  have gg : Grow s.heap ρ h₃ ρ₂ := (g.trans g').trans g₃
  exact ⟨.next, m, h₃, t₃, ρ₂, σ₃, rfl, gg.c, S₃, P.fm.grow P.st gg, trivial, q₃⟩
theorem wl_dict0 {pos : Pos} {Q : V → List Cell → Prop} (q : Q (.loc σ.length) (σ ++ [.dict []])) : WL C H env (.Dict [] [] pos) m σ Q := fun A s ρ P => by
  refine wpAny_Dict_empty ?_
  obtain ⟨S', g'⟩ := alloc_dict P.ok P.st (fun _ _ e => e)
  exact ⟨.loc σ.length, _, s.toks, _, _, rfl, g', S', .loc (P.st.len ▸ List.getElem?_concat_length), q⟩
end

def DP (C : Cx) (H : Nat) (env : Env) : List (Str × Nat × Pos) → List Expr → M → List Cell → (List (Str × V) → List Cell → Prop) → Prop
  | [], [], _, σ, Q => Q [] σ
  | k :: ks, e :: es, m, σ, Q => WL C H env e m σ fun d σ₁ => DP C H env ks es m σ₁ fun ds σ₂ => Q ((k.1, d) :: ds) σ₂
  | _, _, _, _, _ => False
inductive Shw : V → Str → Prop
  | str (x : Str) : Shw (.str x) x
  | int (i : Nat) (l : i < 1000000) (ok : PyData.strOk (toString (i : Int) : String) = true) : Shw (.int i) (toString (i : Int) : String)
def FP (C : Cx) (H : Nat) (env : Env) : List Expr → Str → M → List Cell → (Str → List Cell → Prop) → Prop
  | [], acc, _, σ, Q => Q acc σ
  | e :: r, acc, m, σ, Q => (∃ x k p, e = .Constant (.str x) k p ∧ PyData.strOk x = true ∧ (acc ++ x).length ≤ 10000 ∧ FP C H env r (acc ++ x) m σ Q) ∨
      ∃ e' p, e = .FormattedValue e' (-1) none p ∧ WL C H env e' m σ fun d σ' => ∃ x, Shw d x ∧ (acc ++ x).length ≤ 10000 ∧ FP C H env r (acc ++ x) m σ' Q
section
variable {C : Cx} {H : Nat} {env : Env} {m m' : M} {σ σ' : List Cell} {A : Around} {h h' : Heap} {ρ ρ' : Rg} {s : Shared}
theorem joins_mono {M : Model} {E : Value → Shared → Prop} {Q Q' : Str → Shared → Prop} (q : ∀ x s, Q x s → Q' x s) : ∀ {parts : List (Sem Value)} {acc : Str} {s : Shared}, Joins M A E parts acc Q s → Joins M A E parts acc Q' s
  | [], _, _, h => q _ _ h
  | x :: r, _, _, h => wpAny_mono h (fun v s₁ z => z.imp fun y z => z.imp fun t z => ⟨z.1, z.2.1, joins_mono q z.2.2⟩) fun _ _ e => e
inductive DpAt (C : Cx) (s : Shared) (ρ : Rg) (ks : List (Str × Nat × Pos)) (Q : List (Str × V) → List Cell → Prop) (vs : List (Value × Value)) (s' : Shared) : Prop
  | mk (kvs : List (Str × Value)) (ds : List (Str × V)) (h' : Heap) (tk : Nat) (ρ' : Rg) (σ' : List Cell) (e : s' = up s h' tk) (g : Grow s.heap ρ h' ρ') (S : St C h' ρ' σ') (ca : Carries C.sk vs kvs) (rk : RepK C h' ρ' kvs ds) (ek : kvs.map (·.1) = ks.map (·.1)) (q : Q ds σ')
theorem dp_run : ∀ (ks : List (Str × Nat × Pos)) (es : List Expr) (pos : Pos) (σ : List Cell) (s : Shared) (ρ : Rg) (Q : List (Str × V) → List Cell → Prop), Pre C H env m σ A s.heap ρ → DP C H env ks es m σ Q →
    wpAny (C.M) A (evalPairs ((ks.zip es).map fun p => (eval (.Constant (.str p.1.1) p.1.2.1 p.1.2.2) env, do let x ← eval p.2 env; standAt pos; pure x))) (fun vs s' => DpAt C s ρ ks Q vs s') (fun _ _ => False) s
  | [], [], pos, σ, s, ρ, Q, P, w => evalPairs_nil ⟨[], [], s.heap, s.toks, ρ, σ, rfl, .refl, P.st, trivial, .nil, rfl, w⟩
  | k :: ks, e :: es, pos, σ, s, ρ, Q, P, w => by
    refine evalPairs_cons (wpAny_Constant_str (wpAny_bind (mono (w A (up s s.heap (s.toks + 1)) ρ P) fun v s₁ yy => yy.elim fun d h₁ t₁ ρ₁ σ₁ g S R z => wpAny_bind (wpAny_standAt (wpAny_pure ?_)))))
    refine mono (dp_run ks es pos σ₁ (up s h₁ t₁) ρ₁ _ (P.grow g S) z) fun vs s₂ yy => ?_
    obtain ⟨kvs, ds, h₂, t₂, ρ₂, σ₂, e, g', S', ca, rk, ek, z'⟩ := yy
    exact ⟨(k.1, v) :: kvs, (k.1, d) :: ds, h₂, t₂, ρ₂, σ₂, e, g.trans g', S', ⟨strKind_is _ _ _ _, rfl, ca⟩, .cons (R.grow g') rk, congrArg (List.cons k.1) ek, z'⟩
  | [], _ :: _, _, _, _, _, _, _, w => w.elim
  | _ :: _, [], _, _, _, _, _, _, w => w.elim
theorem pairs_shape (pos : Pos) : ∀ (ks : List (Str × Nat × Pos)) (es : List Expr), (evalEachOpt (ks.map fun k => some (.Constant (.str k.1) k.2.1 k.2.2)) env).zip ((evalEach es env).map fun v => do let x ← v; standAt pos; pure x) =
    ((ks.zip es).map fun p => (eval (.Constant (.str p.1.1) p.1.2.1 p.1.2.2) env, do let x ← eval p.2 env; standAt pos; pure x)).map fun p => (some p.1, p.2)
  | [], [] => rfl
  | [], _ :: _ => rfl
  | k :: ks, [] => rfl
  | k :: ks, e :: es => congrArg (List.cons _) (pairs_shape pos ks es)
theorem wl_dict {ks : List (Str × Nat × Pos)} {es : List Expr} {pos : Pos} {Q : V → List Cell → Prop} (h0 : ks.length = es.length) (h1 : ks ≠ []) (h2 : ks.length ≤ 15) (nd : (ks.map (·.1)).Nodup)
    (hw : DP C H env ks es m σ fun ds σ₁ => Q (.loc σ₁.length) (σ₁ ++ [.dict ds])) : WL C H env (.Dict (ks.map fun k => some (.Constant (.str k.1) k.2.1 k.2.2)) es pos) m σ Q := fun A s ρ P => by
  refine wpAny_Dict_pairs (knd := C.sk) (pairs_shape pos ks es) (by cases ks <;> cases es <;> first | exact absurd rfl h1 | exact (Nat.noConfusion h0) | exact List.cons_ne_nil _ _) (by rw [List.length_map, List.length_zip]; exact Nat.le_trans (Nat.min_le_left _ _) h2) ?_
  have fD : s.heap.get? s.heap.objs.size = none := none_of_size (Nat.le_refl _)
  have sy := sys_size P.ok P.st
  generalize hD : s.heap.objs.size = D at fD sy ⊢
  have kf : Full s.heap (s.heap.push emptyDict) := Full.push _
  have eD : (s.heap.push emptyDict).get? D = some emptyDict := hD ▸ Heap.get?_push_size _ rfl
  have fr : ∀ b ∈ [D], s.heap.get? b = none := fun b m => List.mem_singleton.mp m ▸ fD
  refine mono (dp_run ks es pos σ (up s (s.heap.push emptyDict) s.toks) ⟨ρ.l, [D] ++ ρ.f⟩ _ ⟨P.ok, P.am, P.st.pushed kf fr (live1 ⟨_, eD⟩), P.fm.move (kf.enter fr) (fun a _ => kf a) fun a q => List.mem_append_right _ (P.fm.off a q)⟩ hw) fun vs s₁ yy => ?_
  obtain ⟨kvs, ds, h₁, t₁, ρ₁, σ₁, rfl, g, S, ca, rk, ek, z⟩ := yy
  have de : emptyDict.IsDictOf (C.sk) [] := ⟨#[], 0, ⟨rfl, rfl, rfl⟩, rfl, (fun e he => absurd he (Array.not_mem_empty e)), .nil, List.nodup_nil⟩
  refine ⟨kvs, ca, Heap.dictOf_iff.mpr ⟨_, g.keep D _ (P.st.new fD).2.1 eD, de⟩, fun h' hd hs => ?_⟩
  rw [merged_nil_of_nodup kvs (ek ▸ nd)] at hd
  obtain ⟨o', ho', hi'⟩ := Heap.dictOf_iff.mp hd
  have e : ρ₁ = ⟨ρ₁.l, [D] ++ ρ.f⟩ := Rg.eq_of (l' := ρ.l) g.fr
  have ⟨pre, _, fresh, kp⟩ := g
  rw [e] at S rk
  have ks₁ := keep1 (h := h₁) (h' := h') (I := D) fun b o n e => (hs.2 b n).trans e
  have wf : ∀ b ∈ [D], b ∈ [D] ++ ρ.f := fun b q => List.mem_append_left _ q
  have S'' := (S.frames (ρ := ⟨ρ₁.l, [D] ++ ρ.f⟩) wf ks₁ (live1 ⟨_, ho'⟩)).adopt (P.st.new fD).2.2 sy (c := .dict ds) ⟨o', kvs, ho', hi', (rk.carry (frames_carry (ρ := ⟨ρ₁.l, [D] ++ ρ.f⟩) wf ks₁)).carry adopt_carry⟩
  obtain ⟨t, q⟩ := pre
  refine ⟨.loc σ₁.length, h', _, ⟨ρ₁.l ++ [D], ρ.f⟩, _, rfl, ⟨⟨t ++ [D], by rw [← List.append_assoc]; exact congrArg (· ++ [D]) q⟩, rfl, fun a m n => (mem_snoc m).elim (fun m => kf.none (fresh a m n)) fun m => m ▸ fD, fun b o n _ e => ks₁ b o (fun q => no_both fD (List.mem_singleton.mp q ▸ e)) (kp b o n List.not_mem_nil (kf _ _ e))⟩, S'', .loc (by rw [← S.len]; exact List.getElem?_concat_length), z⟩
set_option exponentiation.threshold 2000 in
theorem log_small {i : Nat} (l : i < 1000000) : (i : Int).natAbs.log2 < 1920 := (Classical.em (i = 0)).elim (fun z => by subst z; decide) fun z => (Nat.log2_lt z).mpr (Nat.lt_trans l (by decide))
inductive FpAt (C : Cx) (s : Shared) (ρ : Rg) (Q : Str → List Cell → Prop) (out : Str) (s' : Shared) : Prop
  | mk (ok : PyData.strOk out = true) (l : out.length ≤ sizeLine) (h' : Heap) (tk : Nat) (ρ' : Rg) (σ' : List Cell) (e : s' = up s h' tk) (g : Grow s.heap ρ h' ρ') (S : St C h' ρ' σ') (q : Q out σ')
theorem fp_run {Q : Str → List Cell → Prop} : ∀ (es : List Expr) (acc : Str) (σ : List Cell) (s : Shared) (ρ : Rg), Pre C H env m σ A s.heap ρ → PyData.strOk acc = true → acc.length ≤ 10000 → FP C H env es acc m σ Q →
    Joins (C.M) A (fun _ _ => False) (evalEach es env) acc (FpAt C s ρ Q) s
  | [], acc, σ, s, ρ, P, ok, hl, w => ⟨ok, Nat.le_trans hl (Nat.le_trans (by decide) size0), s.heap, s.toks, ρ, σ, rfl, .refl, P.st, w⟩
  | e :: es, acc, σ, s, ρ, P, ok, hl, w => by
    have next : ∀ (x : Str) (h₁ : Heap) (t₁ : Nat) (ρ₁ : Rg) (σ₁ : List Cell) (tv : Tok), PyData.strOk x = true → Grow s.heap ρ h₁ ρ₁ → St C h₁ ρ₁ σ₁ → (acc ++ x).length ≤ 10000 → FP C H env es (acc ++ x) m σ₁ Q →
        ∃ y t, Value.str x tv = .str y t ∧ (acc ++ y).length ≤ sizeLine ∧ Joins (C.M) A (fun _ _ => False) (evalEach es env) (acc ++ y) (FpAt C s ρ Q) (up s h₁ t₁) := fun x h₁ t₁ ρ₁ σ₁ tv okx g S l z =>
      ⟨x, tv, rfl, Nat.le_trans l (Nat.le_trans (by decide) size0), joins_mono (fun out s₂ z => by
        obtain ⟨a, b, h', tk, ρ', σ', e, g', S', q⟩ := z
        exact ⟨a, b, h', tk, ρ', σ', e, g.trans g', S', q⟩) (fp_run es (acc ++ x) σ₁ (up s h₁ t₁) ρ₁ (P.grow g S) (strOk_append ok okx) l z)⟩
    rcases w with ⟨x, k, p, rfl, okx, l, w⟩ | ⟨v, p, rfl, w⟩
    · exact wpAny_Constant_str (next _ _ _ ρ σ _ okx .refl P.st l w)
    · refine wpAny_FormattedValue_plain (mono (w A s ρ P) fun v s₁ yy => yy.elim fun d h₁ t₁ ρ₁ σ₁ g S R z => ?_)
      obtain ⟨x, sh, l, z⟩ := z
      cases sh with
      | str x =>
        obtain ⟨t, rfl, okx⟩ := R.sees
        have lx : x.length ≤ 10000 := Nat.le_trans (strLen_append acc x ▸ Nat.le_add_left _ _) l
        exact wpAny_formatField_str (next _ _ _ ρ₁ σ₁ _ okx g S l z) (next _ _ _ ρ₁ σ₁ _ okx g S l z) (Nat.le_trans lx (Nat.le_trans (by decide) size0))
      | int i l0 okx =>
        obtain ⟨t, rfl⟩ := R.sees
        exact wpAny_formatField_int (log_small l0) (next _ _ _ ρ₁ σ₁ _ okx g S l z)
theorem wl_fstr {e₁ e₂ : Expr} {es : List Expr} {pos : Pos} {Q : V → List Cell → Prop} (w : FP C H env (e₁ :: e₂ :: es) Str.empty m σ fun x σ' => Q (.str x) σ') : WL C H env (.JoinedStr (e₁ :: e₂ :: es) pos) m σ Q := fun A s ρ P => by
  refine wpAny_JoinedStr (joins_mono (fun out s₂ z => ?_) (fp_run (e₁ :: e₂ :: es) Str.empty σ s ρ P (by decide +kernel) (by decide) w))
  obtain ⟨a, b, h', tk, ρ', σ', rfl, g', S', q⟩ := z
  exact ⟨b, .str out, h', _, ρ', σ', rfl, g', S', .str _ _ a, q⟩
theorem wl_neg {e : Expr} {pos : Pos} {Q : V → List Cell → Prop} (hw : WL C H env e m σ fun d σ' => ∃ i, d = .int i ∧ Q (.int (-i)) σ') : WL C H env (.UnaryOp .USub e pos) m σ Q := fun A s ρ P => by
  refine wpAny_UnaryOp (mono (hw A s ρ P) fun v s₁ g₁ => g₁.andThen fun d h₁ t₁ ρ₁ σ₁ g S R yy => ?_)
  obtain ⟨i, rfl, q⟩ := yy
  obtain ⟨t, rfl⟩ := R.sees
  exact PyProof.Rows.neg_int ⟨_, h₁, _, ρ₁, σ₁, rfl, g, S, .int _ _, q⟩
theorem wl_rev {value st : Expr} {p pos : Pos} {Q : V → List Cell → Prop} (hw : WL C H env value m σ fun o σ₁ => WL C H env st m σ₁ fun d σ₂ => ∃ xs, Holds σ₂ o xs ∧ (isTup o = false) ∧ xs.length ≤ 100000 ∧ d = .int (-1) ∧ Q (.lst xs.reverse) σ₂) : WL C H env (.Subscript value (.Slice none none (some st) p) pos) m σ Q := fun A s ρ P => by
  refine Subscript_ (mono (hw A s ρ P) fun vo s₁ g₁ => g₁.andThen fun o h₁ t₁ ρ₁ σ₁ g S R z => wpAny_Slice ?_)
  rw [evalPart_none]
  refine wpAny_pure (wpAny_pure ?_)
  rw [evalPart_some]
  refine mono (z A (up s h₁ t₁) ρ₁ (P.grow g S)) fun vs s₂ yy => ?_
  obtain ⟨d, h₂, t₂, ρ₂, σ₂, rfl, g₂, S₂, R₂, zz⟩ := yy
  obtain ⟨xs, hx, nt, hl, rfl, q⟩ := zz
  obtain ⟨tt, rfl⟩ := R₂.sees
  generalize hH : h₂.push { cls := .type "slice", data := .fields #[.none, .none, .int (-1) tt] } = h₄
  have kf : Full h₂ h₄ := hH ▸ Full.push _
  have S₄ := S₂.full kf
  obtain ⟨a, ws, n, rfl, e1, r1⟩ := lst_of S₄ ((R.grow g₂).grow kf.grow) hx nt
  refine tail_any (T := "list") ⟨_, e1, rfl⟩ list_getitem_lookup (wpAny_getItem_list_slice (s := (up s h₄ t₂)) ⟨_, e1, rfl, n, rfl⟩ (hH ▸ Heap.IsSliceOf.new ..) .none .none (.int _ _) (by decide) ?_ (r1.fits (Nat.le_trans hl (by decide)))) rfl
  rw [krv_pick]
  exact Got.trans (tk := t₂) ((g.trans g₂).trans kf.grow) (got_lst (s := up s h₄ t₂) S₄ r1.reverse q)
end

section
variable {C : Cx} {H : Nat} {env : Env} {m m' : M} {σ σ' : List Cell} {A : Around} {h h' : Heap} {ρ ρ' : Rg} {s : Shared}
def isS (x : Str) : Value → Bool
  | .str y _ => y == x
  | _ => false
theorem str_eqs {x : Str} {t : Tok} {vs : List Value} {ss : List Str} (r : RepL C h ρ vs (ss.map .str)) : ∀ y ∈ vs, MeetsSeq.EqGives y (.str x t) (isS x y) :=
  r.ind (P := fun vs ds => (∀ d ∈ ds, ∃ z, d = V.str z) → ∀ y ∈ vs, MeetsSeq.EqGives y (.str x t) (isS x y)) (fun _ _ m => nomatch m) (fun {v vs d ds} a _ k hd y m => by
    rcases List.mem_cons.mp m with rfl | m
    · obtain ⟨z, rfl⟩ := hd _ (.head _)
      obtain ⟨t', rfl, _⟩ := a.sees
      exact PyProof.Rows.eqGives_str _ _ _ _
    · exact k (fun d m => hd d (.tail _ m)) y m) fun d m => (List.mem_map.mp m).imp fun z q => q.2.symm
theorem str_at {x : Str} {vs : List Value} {ss : List Str} (r : RepL C h ρ vs (ss.map .str)) (i : Nat) (hi : i < vs.toArray.size) : ∃ y, ss[i]? = some y ∧ isS x vs.toArray[i] = (y == x) := by
  have hs : i < ss.length := by rw [r.size, List.length_map] at hi; exact hi
  have e : (ss.map V.str)[i]? = some (.str ss[i]) := by rw [List.getElem?_map, List.getElem?_eq_getElem hs]; rfl
  obtain ⟨v, hv, rv⟩ := r.at_ e
  obtain ⟨t, rfl, _⟩ := rv.sees
  obtain ⟨_, ev⟩ := Array.getElem?_eq_some_iff.mp hv
  exact ⟨ss[i], List.getElem?_eq_getElem hs, by rw [ev]; rfl⟩
theorem str_hit {x : Str} {vs : List Value} {ss : List Str} {j : Nat} (r : RepL C h ρ vs (ss.map .str)) (hj : ss[j]? = some x) : ∃ jv : j < vs.toArray.size, isS x vs.toArray[j] = true := by
  have jv : j < vs.toArray.size := by rw [r.size, List.length_map]; exact (List.getElem?_eq_some_iff.mp hj).1
  obtain ⟨y, e, q⟩ := str_at (x := x) r j jv
  exact ⟨jv, q.trans (beq_iff_eq.mpr (Option.some.inj (e.symm.trans hj)))⟩
theorem str_no {x : Str} {vs : List Value} {ss : List Str} {i : Nat} (r : RepL C h ρ vs (ss.map .str)) (hi : i < vs.toArray.size) (hno : ss[i]? ≠ some x) : isS x vs.toArray[i] = false := by
  obtain ⟨y, e, q⟩ := str_at (x := x) r i hi
  exact q.trans (beq_eq_false_iff_ne.mpr fun z => hno (z ▸ e))
theorem bc_index {d : V} {ss : List Str} {x : Str} {j : Nat} {Q : V → List Cell → Prop} (e : Holds σ d (ss.map .str)) (nt : isTup d = false) (l : ss.length ≤ 100000) (hj : ss[j]? = some x) (hno : ∀ i, i < j → ss[i]? ≠ some x) (q : Q (.int j) σ) : BC C H (.builtin "list.index") [d, .str x] σ Q := bc2 fun A s ρ v v' P r r' => by
  obtain ⟨a, vs, k, rfl, e1, r1⟩ := lst_of P.st r e nt
  obtain ⟨t, rfl, _⟩ := r'.sees
  obtain ⟨jv, hit⟩ := str_hit r1 hj
  have jl : (j : Int) < 2 ^ 63 - 1 := Int.lt_of_lt_of_le (Int.ofNat_lt.mpr (Nat.lt_of_lt_of_le (List.getElem?_eq_some_iff.mp hj).1 l)) (by decide)
  exact call_meets F.slot_list_index ⟨_, e1, rfl⟩ F.entry_list_index (F.args_list_index_2 _ _) (PySem.MeetsSeq.list_index a vs.toArray k _ (isS x) (fun y hy => str_eqs r1 y (List.mem_toArray.mp hy)) j jv jl hit (fun i hi li => str_no r1 hi (hno i li))) ⟨e1, Got.here P.st (.int _ _) q⟩
theorem RepL.erase {vs : List Value} {ds : List V} (r : RepL C h ρ vs ds) : ∀ j, RepL C h ρ (vs.eraseIdx j) (ds.eraseIdx j) :=
  r.ind (P := fun vs ds => ∀ j, RepL C h ρ (vs.eraseIdx j) (ds.eraseIdx j)) (fun _ => .nil) fun a b k j => j.casesOn b fun j => .cons a (k j)
theorem erase_map (l : List Str) : ∀ j : Nat, (l.map V.str).eraseIdx j = (l.eraseIdx j).map V.str := by
  induction l with
  | nil => exact fun _ => rfl
  | cons a l ih => exact fun j => j.casesOn rfl fun j => congrArg (List.cons _) (ih j)
theorem erase_arr {vs : List Value} {j : Nat} (h : j < vs.toArray.size) : vs.toArray.eraseIdxIfInBounds j = (vs.eraseIdx j).toArray := by
  rw [List.size_toArray] at h
  simp [Array.eraseIdxIfInBounds, h]
theorem bc_remove {n : Nat} {ss : List Str} {x : Str} {j : Nat} {Q : V → List Cell → Prop} (e : σ[n]? = some (.list (ss.map .str))) (l : ss.length ≤ 100000) (hj : ss[j]? = some x) (hno : ∀ i, i < j → ss[i]? ≠ some x) (q : Q .none (σ.set n (.list ((ss.eraseIdx j).map .str)))) : BC C H (.builtin "list.remove") [.loc n, .str x] σ Q := bc2 fun A s ρ v v' P r r' => by
  obtain ⟨a, vs, k, rfl, e1, r1, ha⟩ := list_at P.st r e
  obtain ⟨t, rfl, _⟩ := r'.sees
  obtain ⟨jv, hit⟩ := str_hit r1 hj
  exact call_meets F.slot_list_remove ⟨_, e1, rfl⟩ F.entry_list_remove (F.args_list_remove_2 _ _) (PySem.MeetsSeq.list_remove a vs.toArray k _ (isS x) (fun y hy => str_eqs r1 y (List.mem_toArray.mp hy)) j jv hit (fun i hi li => str_no r1 hi (hno i li)) (r1.fits (by rw [List.length_map]; exact Nat.le_trans l (by decide))))
    ⟨e1, got_turn P.st ha e1 _ (erase_arr jv) (erase_map ss j ▸ r1.erase j) .none q⟩
theorem strs_rep : ∀ (ps : List Str) (tk : Nat), ps.all PyData.strOk = true → RepL C h ρ (strsFrom tk ps) (ps.map .str)
  | [], _, _ => .nil
  | p :: ps, tk, k => have k := Bool.and_eq_true_iff.mp k; .cons (.str _ _ k.1) (strs_rep ps (tk + 1) k.2)
theorem bc_split {x y : Str} {ps : List Str} {Q : V → List Cell → Prop} (h1 : (decide (x.length < y.length) || decide (PySem.Builtin.Str.strKind x < PySem.Builtin.Str.strKind y)) = false) (hy : (y.length == 0) = false)
    (hf : (PySem.Builtin.Str.occurrences x y 0 x.length (x.length + 1)).isEmpty = false) (hx : x.length ≤ 1000) (hp : PySem.Builtin.Str.partsBetween x (PySem.Builtin.Str.occurrences x y 0 x.length (x.length + 1)) y.length = ps) (ok : ps.all PyData.strOk = true) (hn : ps.length ≤ 1000) (q : Q (.lst (ps.map .str)) σ) :
    BC C H (.builtin "str.split") [.str x, .str y] σ Q := bc2 fun A s ρ v v' P r r' => by
  obtain ⟨t, rfl, _⟩ := r.sees
  obtain ⟨t', rfl, _⟩ := r'.sees
  refine call_meets F.slot_str_split (typeIs_str _ _ _) F.entry_str_split (F.args_str_split_2 _ _) (meets_str_split_sep x y _ _ h1 hy hf (Nat.le_trans hx (Nat.le_trans (by decide) size0)) (hp ▸ Nat.le_trans hn (Nat.le_trans (by decide) size0))) ?_
  rw [hp]
  exact got_lst P.st (strs_rep ps _ ok) q
end

theorem list_no_keys : typeLookup (.type "list") "keys" = pure none := by rw [typeLookup_type, builtinLookup_eq_fast]; kernel_rfl
theorem entry_upd : entryFor table "dict.update.loop" = some Builtin.«dict.update.loop» := entryFor_of_tree (by kernel_rfl)
theorem plain_upd : plainId "dict.update.loop" = true := by decide +kernel
theorem keys_miss {C : Cx} {A : Around} {E : Value → Shared → Prop} {s : Shared} {a : Addr} {xs : Array Value} {k : Nat} {Q : Option Value → Shared → Prop} (hx : s.heap.get? a = some { cls := .type "list", dict := none, data := .seq xs k, slots := #[] }) (hA : A.handled = none)
    (h : ∀ h' tk, (∀ b o, s.heap.get? b = some o → h'.get? b = some o) → Q none (up s h' tk)) : wpAny (C.M) A (getAttr? (.ref a) "keys") Q E s := by
  obtain ⟨hp, g, d, tk, os⟩ := s
  have hT : ∀ tk', (⟨hp, g, d, tk', os⟩ : Shared).TypeIs (.ref a) "list" := fun _ => ⟨_, hx, rfl⟩
  have f1 := sub_AttributeError
  have f3 := F.slot_list_getattribute.lookup
  have f4 := F.slot_list_getattribute.bind (.ref a)
  have f5 := am_list_getattr_none
  unfold getAttr? getAttrBy? getAttrBy
  repeat (any_goals (first | assumption | exact hT _ | ((with_reducible show wpAny _ _ (call (Value.builtin "list.__getattribute__") _ _) _ _ _); refine call_meets F.slot_list_getattribute (hT _) am_entry_list_getattribute (F.args_list_getattribute_2 _ _) (meets_getattribute_miss_list a xs k _ "keys" _ list_no_keys (by decide +kernel) (by decide +kernel)) ⟨hx, hA, fun h' tk' e hx' => ?_⟩) | wp_step))
  obtain ⟨t', u', he⟩ := hx'.there
  show wpAny _ _ (getattributeRaised _ _ _ _ _ _ _) _ _ _
  unfold getattributeRaised
  repeat (any_goals (first | assumption | wp_step))
  exact h _ _ hx'.keeps
abbrev pairV (p : Str × V) : V := .tup [.str p.1, p.2]
def putAll (acc r : List (Str × V)) : List (Str × V) := r.foldl (fun a p => putK a p.1 p.2) acc
section
variable {C : Cx} {H : Nat} {env : Env} {m m' : M} {σ σ' : List Cell} {A : Around} {h h' : Heap} {ρ ρ' : Rg} {s : Shared}
theorem putK_length {α : Type} (k : Str) (v : α) : ∀ l : List (Str × α), (putK l k v).length ≤ l.length + 1
  | [] => Nat.le_refl _
  | (k', v') :: r => by
    unfold putK
    by_cases q : k' = k
    · rw [if_pos q]; exact Nat.le_succ _
    · rw [if_neg q]; exact Nat.succ_le_succ (putK_length k v r)
theorem Carry.trans {h'' : Heap} {ρ'' : Rg} (c : Carry h ρ h' ρ') (c' : Carry h' ρ' h'' ρ'') : Carry h ρ h'' ρ'' := ⟨fun e => c'.get (c.get e), fun n1 n2 e => let ⟨m1, m2, e'⟩ := c.at_ n1 n2 e; c'.at_ m1 m2 e'⟩
structure UAt (C : Cx) (ρ : Rg) (I l D : Addr) (vs : List Value) (kl i : Nat) (r : List (Str × V)) (acc : List (Str × V)) (kvs : List (Str × Value)) (h : Heap) : Prop where
  hl : h.get? l = some (lstO vs kl)
  hr : RepL C h ρ (vs.drop i) (r.map pairV)
  hit : h.IsListIter I l i
  hd : h.DictOf C.sk D kvs
  hk : RepK C h ρ kvs acc
theorem dictOf_keep {D : Addr} {kvs : List (Str × Value)} (hd : h.DictOf C.sk D kvs) (k : ∀ o, h.get? D = some o → h'.get? D = some o) : h'.DictOf C.sk D kvs := by
  obtain ⟨o, es, ep, ho, rest⟩ := hd
  exact ⟨o, es, ep, k o ho, rest⟩
theorem upd_loop {I l D : Addr} {vs : List Value} {kl : Nat} (hh : A.handled = none) (hID : I ≠ D) (hlI : l ≠ I) (hlD : l ≠ D) (iF : I ∈ ρ.f) (dF : D ∈ ρ.f) :
    ∀ (r : List (Str × V)) (i : Nat) (acc : List (Str × V)) (kvs : List (Str × Value)) (s : Shared) (R : Result → Shared → Prop), UAt C ρ I l D vs kl i r acc kvs s.heap → acc.length + r.length ≤ 1000 →
      (∀ h' tk kvs', (∀ b o, b ≠ I → b ≠ D → s.heap.get? b = some o → h'.get? b = some o) → h'.DictOf (C.sk) D kvs' → RepK C h' ρ kvs' (putAll acc r) → R (.ok (.ret .none)) (up s h' tk)) →
      codeAny (C.M) A (.builtin "dict.update.loop" ⟨[.ref D, .ref I, rawInt i, .none], []⟩) R s
  | [], i, acc, kvs, s, R, U, hz, hR => by
    refine codeAny_builtin entry_upd ?_
    rw [Around.under_plainId plain_upd _]
    show wpAny _ A.in1 (pyNext (.ref I) >>= _) _ _ s
    have e : vs.drop i = [] := U.hr.seen
    have hn : vs.toArray[i]? = none := List.getElem?_toArray.trans (List.getElem?_eq_none (List.drop_eq_nil_iff.mp e))
    refine wpAny_bind (wpAny_pyNext_list_end hh U.hit ⟨_, U.hl, rfl, kl, rfl⟩ hn fun h' he => ?_)
    show wpAny _ A.in1 (Builtin.Dict.addKeywords D [] >>= fun _ => ret Value.none) _ _ _
    exact wpAny_bind (wpAny_pure (wpAny_pure (hR h' s.toks kvs (fun b o n _ => he b o n) (dictOf_keep U.hd fun o => he D o hID.symm) (U.hk.carry (frames_carry (wr := [I]) (fun b m => List.mem_singleton.mp m ▸ iF) (keep1 he))))))
  | p :: r, i, acc, kvs, s, R, U, hz, hR => by
    refine codeAny_builtin entry_upd ?_
    rw [Around.under_plainId plain_upd _]
    show wpAny _ A.in1 (pyNext (.ref I) >>= _) _ _ s
    obtain ⟨v, tl, ev, rv, rr⟩ := U.hr.seen
    have hx : vs.toArray[i]? = some v := List.getElem?_toArray.trans ((List.getElem?_drop (i := i) (j := 0) (xs := vs)).symm.trans (ev ▸ rfl))
    have etl : vs.drop (i + 1) = tl := (List.drop_drop (i := 1) (j := i) (l := vs)).symm.trans (ev ▸ rfl)
    refine wpAny_bind (wpAny_pyNext_list_item U.hit ⟨_, U.hl, rfl, kl, rfl⟩ hx fun h' hit' hs => ?_)
    have c1 : Carry s.heap ρ h' ρ := frames_carry (wr := [I]) (fun b m => List.mem_singleton.mp m ▸ iF) (keep1 hs.extBut)
    obtain ⟨t, ws, kk, rfl, et, rt⟩ := tup_of (rv.carry c1)
    obtain ⟨v1, v2, rfl, r1, r2⟩ := rt.two
    obtain ⟨tk1, rfl, ok1⟩ := r1.sees
    dsimp only
    refine wpAny_bind (wpAny_holding (wpAny_bind (wpAny_tryCatch ?_)))
    unfold Builtin.Dict.pairItems
    refine wpAny_bind (wpAny_typeOf (T := "tuple") ⟨_, et, rfl⟩ ?_)
    rw [if_pos (by decide)]
    refine wpAny_bind (wpAny_seqItems et rfl (wpAny_pure ?_))
    show wpAny _ A.in1 (holding [Value.str p.1 tk1, v2] (dictSet D (.str p.1 tk1) v2)) _ _ _
    have nd : (kvs.map (·.1)).Nodup := by obtain ⟨_, _, _, _, rest⟩ := U.hd; exact rest.2.2.2.2
    have hz : acc.length + 1 + r.length ≤ 1000 := Nat.add_right_comm acc.length 1 r.length ▸ hz
    refine wpAny_holding (wpAny_dictSet_pairs (s := (up s h' s.toks)) (strKind_is C.prog C.w p.1 tk1) (dictOf_keep U.hd fun o => hs.extBut D o hID.symm) (fun h₂ hd₂ hs₂ => ?_) (U.hk.length ▸ Nat.le_trans (Nat.le_trans (Nat.le_trans (Nat.le_succ _) (Nat.le_add_right _ _)) hz) (Nat.le_trans (by decide) size0)))
    rw [putK_stored _ _ _ nd] at hd₂
    have c2 : Carry h' ρ h₂ ρ := frames_carry (wr := [D]) (fun b m => List.mem_singleton.mp m ▸ dF) (keep1 hs₂.extBut)
    refine wpAny_pure ⟨plainId_quiet plain_upd _, ?_⟩
    exact upd_loop hh hID hlI hlD iF dF r (i + 1) (putK acc p.1 p.2) _ _ R ⟨hs₂.extBut l _ hlD (hs.extBut l _ hlI U.hl), etl ▸ (rr.carry c1).carry c2, hit'.extBut hs₂.extBut hID, hd₂, ((U.hk.carry c1).put r2).carry c2⟩ (Nat.le_trans (Nat.add_le_add_right (putK_length _ _ _) _) hz)
      fun h'' tk kvs' ks hd'' hk'' => hR h'' tk kvs' (fun b o n1 n2 e => ks b o n1 n2 (hs₂.extBut b o n2 (hs.extBut b o n1 e))) hd'' hk''
theorem bc_dict {d : V} {ps : List (Str × V)} {Q : V → List Cell → Prop} (e : Holds σ d (ps.map pairV)) (nt : isTup d = false) (hl : ps.length ≤ 1000) (q : Q (.loc σ.length) (σ ++ [.dict (putAll [] ps)])) : BC C H (.type "dict") [d] σ Q := bc1 fun A s ρ v P r => by
  obtain ⟨a, vs, k, rfl, e1, r1⟩ := lst_of P.st r e nt
  refine callType_codes (Q₁ := fun obj s₁ => obj = .ref s.heap.objs.size ∧ s₁ = { s with heap := s.heap.push { cls := .type "dict", data := .dict #[] } }) PySem.F.kt_called_dict (PySem.F.kt_typeCall_dict_1 _) PySem.F.entry_dict_init (kt_code_dict_new _ ⟨rfl, rfl⟩) ?_
  rintro obj s₁ ⟨rfl, rfl⟩
  have fD : s.heap.get? s.heap.objs.size = none := none_of_size (Nat.le_refl _)
  have hsy := sys_size P.ok P.st
  generalize hD : s.heap.objs.size = D at fD hsy ⊢
  have k0 : Full s.heap (s.heap.push emptyDict) := Full.push _
  have eD : (s.heap.push emptyDict).get? D = some emptyDict := hD ▸ Heap.get?_push_size _ rfl
  have hT : ((up s (s.heap.push emptyDict) s.toks) : Shared).TypeIs (.ref D) "dict" := ⟨_, eD, rfl⟩
  refine ⟨hT, PySem.F.args_dict_init_2 _ _, ?_⟩
  unfold Builtin.«dict.__init__»
  refine wpAny_bind ?_
  unfold Builtin.Dict.selfAndRest
  refine wpAny_bind (wpAny_notOrdered_dict hT ?_)
  show wpAny _ _ (pure (D, [Value.ref a])) _ _ _
  refine wpAny_pure ?_
  show wpAny _ _ (Builtin.Dict.updateFrom "dict.__init__" D (.ref a) [] .none) _ _ _
  unfold Builtin.Dict.updateFrom
  have ea0 : (s.heap.push emptyDict).get? a = some (lstO vs k) := k0 _ _ e1
  refine wpAny_bind (wpAny_typeOf (T := "list") (s := (up s (s.heap.push emptyDict) s.toks)) ⟨_, ea0, rfl⟩ ?_)
  rw [if_pos (by decide)]
  refine wpAny_bind (keys_miss ea0 P.am.hd fun h₁ tk₁ k1 => ?_)
  simp only [Option.isNone_none, if_true]
  have ea1 : h₁.get? a = some (lstO vs k) := k1 _ _ ea0
  refine wpAny_bind (wpAny_rule (wpAny_bind (wpAny_pyIter_list (s := (up s h₁ tk₁)) ⟨_, ea1, rfl, k, rfl⟩ ?_)))
  have eD1 : h₁.get? D = some emptyDict := k1 _ _ eD
  have fI1 : h₁.get? h₁.objs.size = none := none_of_size (Nat.le_refl _)
  have eI : (h₁.push { cls := .type "list_iterator", data := .fields #[.ref a, .int 0 0] }).IsListIter h₁.objs.size a 0 := ⟨_, Heap.get?_push_size _ rfl, rfl, rfl⟩
  have k2 : Full h₁ (h₁.push { cls := .type "list_iterator", data := .fields #[.ref a, .int 0 0] }) := Full.push _
  generalize h₁.objs.size = I at fI1 eI ⊢
  generalize h₁.push { cls := .type "list_iterator", data := .fields #[.ref a, .int 0 0] } = h₂ at k2 eI ⊢
  have k01 := k0.trans k1
  have kk : Full s.heap h₂ := k01.trans k2
  have fI : s.heap.get? I = none := k01.none fI1
  have nID : I ≠ D := fun z => no_both fI1 (z ▸ eD1)
  have fr : ∀ b ∈ [I] ++ [D], s.heap.get? b = none := fun b m => (mem_snoc m).elim (fun z => List.mem_singleton.mp z ▸ fI) fun z => z ▸ fD
  have de : emptyDict.IsDictOf (C.sk) [] := ⟨#[], 0, ⟨rfl, rfl, rfl⟩, rfl, (fun e he => absurd he (Array.not_mem_empty e)), .nil, List.nodup_nil⟩
  refine wpAny_pure ⟨plainId_quiet plain_upd _, ?_⟩
  refine upd_loop (C := C) (A := A.in1) (s := (up s h₂ tk₁)) (ρ := ⟨ρ.l, ([I] ++ [D]) ++ ρ.f⟩) P.am.hd nID (fun z => no_both fI (z ▸ e1)) (fun z => no_both fD (z ▸ e1)) (.head _) (.tail _ (.head _)) ps 0 [] [] _ ⟨k2 _ _ ea1, r1.carry (kk.enter fr), eI, Heap.dictOf_iff.mpr ⟨_, k2 _ _ eD1, de⟩, .nil⟩ (Nat.zero_add _ ▸ hl) fun h' tk kvs' ks hd' hk' => ?_
  obtain ⟨o', ho', hi'⟩ := Heap.dictOf_iff.mp hd'
  have kf : Full s.heap h' := fun b o e => ks b o (fun z => no_both fI (z ▸ e)) (fun z => no_both fD (z ▸ e)) (kk _ _ e)
  have ca : Carry h' ⟨ρ.l, ([I] ++ [D]) ++ ρ.f⟩ h' (ρ.snoc D) := (⟨fun e => e, fun n1 n2 e => ⟨n1, fun q => n2 (List.mem_append_right [I] q), e⟩⟩ : Carry h' ⟨ρ.l, ([I] ++ [D]) ++ ρ.f⟩ h' ⟨ρ.l, [D] ++ ρ.f⟩).trans adopt_carry
  obtain ⟨S', g'⟩ := P.st.alloc kf fD hsy ho' (c := .dict (putAll [] ps)) ⟨o', kvs', ho', hi', hk'.carry ca⟩
  exact ⟨rfl, .loc σ.length, h', tk, _, _, rfl, g', S', .loc (P.st.len ▸ List.getElem?_concat_length), q⟩
end

section
variable {C : Cx} {H : Nat} {env : Env} {m m' : M} {σ σ' : List Cell} {A : Around} {h h' : Heap} {ρ ρ' : Rg} {s : Shared}
theorem repK_get {kvs : List (Str × Value)} {ds : List (Str × V)} (r : RepK C h ρ kvs ds) : ∀ (j : Nat) (k : Str) (x : Value), kvs[j]? = some (k, x) → ∃ d, ds[j]? = some (k, d) ∧ Rep C h ρ x d :=
  r.ind (P := fun kvs ds => ∀ (j : Nat) (k : Str) (x : Value), kvs[j]? = some (k, x) → ∃ d, ds[j]? = some (k, d) ∧ Rep C h ρ x d) (fun _ _ _ e => nomatch e)
    fun {k' v vs d ds} a _ ih j => j.casesOn (fun k x e => have e := Prod.mk.inj (Option.some.inj e); ⟨d, congrArg (fun k => some (k, d)) e.1, e.2 ▸ a⟩) fun j k x e => ih j k x e
theorem RepL.of_get : ∀ {vs : List Value} {ds : List V}, vs.length = ds.length → (∀ (j : Nat) (v : Value) (d : V), vs[j]? = some v → ds[j]? = some d → Rep C h ρ v d) → RepL C h ρ vs ds
  | [], [], _, _ => .nil
  | v :: vs, d :: ds, e, k => .cons (k 0 v d rfl rfl) (RepL.of_get (Nat.succ.inj e) fun j => k (j + 1))
  | [], _ :: _, e, _ => nomatch e
  | _ :: _, [], e, _ => nomatch e
theorem wl_listitems {e : Expr} {fp apos ip pos : Pos} {Q : V → List Cell → Prop} (o : Out env "list") (g : Bui C "list" (.type "list")) (hbase : attributeBase e "items" env (eval e env) = eval e env) (hline : (apos.endLine == ip.line) = true)
    (hp : starEach [Expr.Call (.Attribute e "items" apos) [] [] ip] env = [(false, eval (.Call (.Attribute e "items" apos) [] [] ip) env)])
    (w : WL C H env e m σ fun d σ₁ => ∃ kvs, HoldsD σ₁ d kvs ∧ kvs.length ≤ 1000 ∧ (kvs.all fun p => PyData.strOk p.1) = true ∧ Q (.lst (kvs.map pairV)) σ₁) :
    WL C H env (.Call (.Name "list" fp) [.Call (.Attribute e "items" apos) [] [] ip] [] pos) m σ Q := fun A s ρ P => by
  show wpAny _ A (eval (.Name "list" fp) env >>= fun v => callWith pos v [] (backTo pos (starEach [.Call (.Attribute e "items" apos) [] [] ip] env)) (backToKw pos (keywordEach [] env))) _ _ s
  refine wpAny_bind (bui_name P o g (callWith_machine rfl (by rw [hp]; rfl) (wpAny_items_cons ?_ (by rw [hp]; rfl))))
  refine wpAny_Call_method_late (args := []) hbase rfl hline rfl (mono (w A s ρ P) fun ov s₁ yy => yy.elim fun d h₁ t₁ ρ₁ σ₁ g S R zz => ?_)
  obtain ⟨kvs, hk, hl, ok, q⟩ := zz
  obtain ⟨a, o, xs, rfl, ho, hi, hr, lo⟩ := dict_of_holds S R hk
  have hd : h₁.DictOf (C.sk) a xs := Heap.dictOf_iff.mpr ⟨o, ho, hi⟩
  refine ⟨"dict", "dict.items", PySem.F.plainAttrs_dict, PySem.F.slot_dict_items, PySem.F.type_dict_items, hd.typeIs, hd.mapOf.noDict, ?_⟩
  refine callWith_machine (C := C) (es := []) (env := env) rfl rfl (wpAny_items_nil ?_)
  refine call_meetsIn (s := (up s h₁ t₁)) PySem.F.slot_dict_items hd.typeIs PySem.F.entry_dict_items (PySem.F.args_dict_items_1 _) (meets_dict_items (C.sk) a lo) ⟨⟨xs, hd⟩, ?_⟩
  refine wpAny_items_nil ?_
  show wpAny _ _ _ _ _ (up s (h₁.push { cls := .type "dict_items", data := .fields #[.ref a] }) t₁)
  have k1 : Full h₁ (h₁.push { cls := .type "dict_items", data := .fields #[.ref a] }) := Full.push _
  have hv : (h₁.push { cls := .type "dict_items", data := .fields #[.ref a] }).IsItemsView h₁.objs.size a := ⟨_, Heap.get?_push_size _ rfl, rfl, rfl⟩
  have sz : h₁.objs.size ≤ (h₁.push { cls := .type "dict_items", data := .fields #[.ref a] }).objs.size := Nat.le_trans (Nat.le_succ _) (Nat.le_of_eq (Heap.size_push ..).symm)
  generalize h₁.push { cls := .type "dict_items", data := .fields #[.ref a] } = h₂ at k1 hv sz ⊢
  obtain ⟨es, ep, hrest⟩ := hi
  have hm : h₂.DictAt (C.sk) a xs ep := ⟨o, es, k1 _ _ ho, hrest⟩
  have lenk : kvs.length = xs.length := hr.length
  refine kdx_call (s := up s h₂ t₁) (knd := C.sk) (kvs := xs) (ep := ep) P.am.hd hv hm (lenk ▸ Nat.le_trans hl (Nat.le_trans (by decide) size0)) fun h' tk acc c as hk' hS hlen hG hacc => ?_
  have kf : Full h₁ h' := k1.trans hk'
  have fresh : ∀ b, h₂.objs.size ≤ b → b ∉ ρ₁.l ∧ b ∉ ρ₁.f := fun b l => (S.new (none_of_size (Nat.le_trans sz l))).2
  obtain rfl : acc = (as.map Value.ref).toArray := by rw [← hacc]
  have rl : RepL C h' ρ₁ (as.map Value.ref) (kvs.map pairV) := RepL.of_get (by rw [List.length_map, List.length_map]; exact hlen.trans lenk.symm) fun j v d ev ed => by
    rw [List.getElem?_map] at ev ed
    obtain ⟨b, hb, rfl⟩ := Option.map_eq_some_iff.mp ev
    obtain ⟨p, hp, rfl⟩ := Option.map_eq_some_iff.mp ed
    obtain ⟨key, kk, x, e1, e2, e3⟩ := hG.pairs j b hb
    obtain ⟨dd, e4, rx⟩ := repK_get (hr.grow kf.grow) j kk x e1
    obtain rfl : p = (kk, dd) := Option.some.inj (hp.symm.trans e4)
    obtain ⟨t, rfl⟩ := Value.isStrOf_shape e2
    have fb := fresh b (Nat.le_of_lt (hG.above b (List.mem_of_getElem? hb)))
    exact .tup (n := 0) fb.1 fb.2 e3 (.cons (.str _ _ (List.all_eq_true.mp ok (kk, dd) (List.mem_of_getElem? e4))) (.cons rx .nil))
  have fs := fresh _ (Nat.le_refl _)
  exact ⟨.lst (kvs.map pairV), h', tk, ρ₁, σ₁, rfl, g.trans kf.grow, S.full kf, .lst fs.1 fs.2 hS rl, q⟩
theorem ints_are : ∀ {ns : List Int} {vs : List Value}, RepL C h ρ vs (ns.map .int) → PyProof.Rows.IntsAre vs ns
  | [], vs, r => by
    have e : vs = [] := r.seen
    rw [e]; exact .nil
  | n :: ns, vs, r => by
    obtain ⟨v, ws, rfl, a, b⟩ := r.seen
    obtain ⟨t, rfl⟩ := a.sees
    exact .cons _ _ (ints_are b)
def nDiff (ns : List Int) : Nat := (PyProof.Rows.firstMet (fun i => ns.getD i 0) ns.length).length
theorem wl_lenset {e : Expr} {fp sp ip pos : Pos} {Q : V → List Cell → Prop} (o : Out env "len") (g : Bui C "len" (.builtin "len")) (o2 : Out env "set") (g2 : Bui C "set" (.type "set"))
    (hp : starEach [Expr.Call (.Name "set" sp) [e] [] ip] env = [(false, eval (.Call (.Name "set" sp) [e] [] ip) env)]) (hp2 : (starEach [e] env) = [(false, eval e env)])
    (w : WL C H env e m σ fun d σ₁ => ∃ ns : List Int, Holds σ₁ d (ns.map .int) ∧ (isTup d = false) ∧ ns.length ≤ 100 ∧ Q (.int (nDiff ns)) σ₁) :
    WL C H env (.Call (.Name "len" fp) [.Call (.Name "set" sp) [e] [] ip] [] pos) m σ Q := fun A s ρ P => by
  show wpAny _ A (eval (.Name "len" fp) env >>= fun v => callWith pos v [] (backTo pos (starEach [.Call (.Name "set" sp) [e] [] ip] env)) (backToKw pos (keywordEach [] env))) _ _ s
  refine wpAny_bind (bui_name P o g (callWith_machine rfl (by rw [hp]; rfl) (wpAny_items_cons ?_ (by rw [hp]; rfl))))
  show wpAny _ A (eval (.Name "set" sp) env >>= fun v => callWith ip v [] (backTo ip (starEach [e] env)) (backToKw ip (keywordEach [] env))) _ _ s
  refine wpAny_bind (bui_name P o2 g2 (callWith_machine rfl (by rw [hp2]; rfl) (wpAny_items_cons (mono (w A s ρ P) fun v s₁ yy => yy.elim fun d h₁ t₁ ρ₁ σ₁ g S R zz => wpAny_items_nil ?_) (by rw [hp2]; rfl))))
  obtain ⟨ns, hx, nt, hl, q⟩ := zz
  obtain ⟨a, vs, k, rfl, e1, r1⟩ := lst_of S R hx nt
  have es0 : vs.toArray.size = ns.length := r1.size.trans (List.length_map _)
  refine call_set_list (s := (up s h₁ t₁)) (ns := ns) P.am.hd ⟨_, e1, rfl, k, rfl⟩ (ints_are r1) (es0 ▸ Nat.lt_of_le_of_lt (Nat.succ_le_succ hl) (by decide)) fun h' tk hS hk => ?_
  rw [es0] at hS
  refine wpAny_items_nil ?_
  have kf : Full h₁ h' := fun b o e => hk b o (Heap.lt_size e) e
  obtain ⟨ob, es, ep, t, ho, hex, hd, _, _, hb, hf, hn⟩ := hS
  refine call_len_set (s := (up s h' tk)) ho hex hd hf (Int.lt_of_lt_of_le (Int.ofNat_lt.mpr hb) (by decide)) ?_
  have e : (es.size : Int) = (nDiff ns : Int) := by rw [hn]; rfl
  rw [e]
  exact ⟨_, h', _, ρ₁, σ₁, rfl, g.trans kf.grow, S.full kf, .int _ _, q⟩
theorem keys_are : ∀ {ks : List Str} {vs : List Value}, RepL C h ρ vs (ks.map .str) → PySem.ItemsAre (C.sk) ks vs
  | [], vs, r => by
    have e : vs = [] := r.seen
    rw [e]; exact .nil
  | n :: ns, vs, r => by
    obtain ⟨v, ws, rfl, a, b⟩ := r.seen
    obtain ⟨t, rfl, _⟩ := a.sees
    exact .cons (strKind_is _ _ _ _) (keys_are b)
theorem tupkey_of {v : Value} {ks : List Str} (R : Rep C h ρ v (.tup (ks.map .str))) : ∃ a, v = .ref a ∧ (tupleKind (C.sk)).is h ks a ∧ a ∉ ρ.l ∧ a ∉ ρ.f := by
  obtain ⟨a, vs, n, ev, n1, n2, e, r⟩ := R.sees
  have k : IsTupleKey (C.sk) h ks a := ⟨_, vs.toArray, n, e, rfl, rfl, keys_are r⟩
  exact ⟨a, ev, k, n1, n2⟩
def SeenAt (σ : List Cell) (n : Nat) (kss : List (List Str)) : Prop := σ[n]? = some (.seen kss) ∨ (σ[n]? = some (.dict []) ∧ kss = [])
theorem seen_at {n : Nat} {v : Value} {kss : List (List Str)} (S : St C h ρ σ) (R : Rep C h ρ v (.loc n)) (e : SeenAt σ n kss) :
    ∃ d xs, v = .ref d ∧ h.DictOfH (tupleKind (C.sk)) d xs ∧ xs.map (·.1) = kss ∧ (∀ x ∈ xs, (x.2.1 ∉ ρ.l ∧ x.2.1 ∉ ρ.f) ∧ ∃ i, x.2.2 = Value.bool i) ∧ ρ.l[n]? = some d := by
  obtain ⟨a, ev, r⟩ := R.sees
  rcases e with e | ⟨e, e0⟩
  · obtain ⟨xs, hd, e1, e2⟩ := S.cell n a _ r e
    exact ⟨a, xs, ev, hd, e1, e2, r⟩
  · obtain ⟨o, kvs, ho, ⟨es, ep, ex, hd, _, hp, _⟩, rk⟩ := S.cell n a _ r e
    have z : es = #[] := Array.eq_empty_of_size_eq_zero (hp.length.trans rk.length.symm)
    subst z
    exact ⟨a, [], ev, ⟨o, _, ep, ho, ex, hd, rfl, (fun x m => nomatch m), List.nodup_nil⟩, e0.symm, (fun x m => nomatch m), r⟩
theorem atKey_some {xs : List (List Str × Addr × Value)} {k : List Str} : (atKey xs k).isSome = (xs.map (·.1)).contains k := by
  induction xs with
  | nil => rfl
  | cons x r ih =>
    unfold atKey at ih ⊢
    rw [List.find?_cons, List.map_cons, List.contains_cons]
    by_cases q : x.1 = k
    · rw [decide_eq_true q, q, beq_self_eq_true]; rfl
    · rw [decide_eq_false q, beq_eq_false_iff_ne.mpr (Ne.symm q), Bool.false_or]; exact ih
theorem room_of (P : Ok0 C H σ A h ρ) : (tupleKind (C.sk)).room A.in1 := Nat.lt_of_le_of_lt (Nat.add_le_add_left (by decide : 1 ≤ 64) A.units) P.am.units
theorem cop_inseen {n : Nat} {ks : List Str} {kss : List (List Str)} {Q : Bool → Prop} (e : SeenAt σ n kss) (q : Q (kss.contains ks)) : Cop C H .In (.tup (ks.map .str)) (.loc n) σ Q := fun A s ρ va vb P R R' => by
  obtain ⟨a, rfl, hk, _, _⟩ := tupkey_of R
  obtain ⟨d, xs, rfl, hd, e1, _, hl⟩ := seen_at P.st R' e
  exact wpAny_in_heap (room_of P) hk (P.st.sy d (List.mem_of_getElem? hl)) hd ⟨_, _, rfl, rfl, by rw [atKey_some, e1]; exact q⟩
theorem uop_seen {n : Nat} {ks : List Str} {kss : List (List Str)} {b : Bool} {Q : List Cell → Prop} (e : SeenAt σ n kss) (l : kss.length ≤ 900) (hn : kss.contains ks = false) (q : Q (σ.set n (.seen (kss ++ [ks])))) : Uop C H (.loc n) (.tup (ks.map .str)) (.bool b) σ Q := fun A s ρ vo vi vd P R R' Rd => by
  obtain ⟨a, rfl, hk, na, nf⟩ := tupkey_of R'
  obtain ⟨d, xs, rfl, hd, e1, e2, hl⟩ := seen_at P.st R e
  obtain rfl := Rd.sees
  have lx : xs.length ≤ 900 := by rw [← e1, List.length_map] at l; exact l
  refine wpAny_setItem_heap (room_of P) hk hd (fun h' hd' hs => ?_) (Nat.le_trans lx (Nat.le_trans (by decide) size0))
  have nk : atKey xs ks = none := Option.isNone_iff_eq_none.mp (Option.isSome_eq_false_iff.mp (atKey_some.trans (e1 ▸ hn)))
  rw [storedH_new nk] at hd'
  obtain ⟨o', es', ep', ho', rest⟩ := id hd'
  obtain ⟨S', g'⟩ := P.st.update (c := .seen (kss ++ [ks])) hl hs ⟨_, hd', by rw [List.map_append, e1]; rfl, fun x m => (List.mem_append.mp m).elim (e2 x) fun m => List.mem_singleton.mp m ▸ ⟨⟨na, nf⟩, b, rfl⟩⟩ ⟨o', ho'⟩
  exact ⟨h', _, _, rfl, g', S', q⟩
theorem bc_extendT {n : Nat} {xs ys : List V} {Q : V → List Cell → Prop} (e : σ[n]? = some (.list xs)) (l : xs.length + ys.length ≤ 100000) (q : Q .none (σ.set n (.list (xs ++ ys)))) : BC C H (.builtin "list.extend") [.loc n, .tup ys] σ Q := bc2 fun A s ρ v v' P r r' => by
  obtain ⟨a, vs, k, rfl, e1, r1, ha⟩ := list_at P.st r e
  obtain ⟨b, ws, k', rfl, e1', r1'⟩ := tup_of r'
  have hs := r1.fits2 r1' (Nat.le_trans l (by decide))
  exact call_meets F.slot_list_extend ⟨_, e1, rfl⟩ F.entry_list_extend (F.args_list_extend_2 _ _) (AutoSeq1.list_extend_list_tuple_0 a vs.toArray k b ws.toArray k' (fun z => of_decide_eq_true (Bool.and_eq_true_iff.mp z).2 |> Nat.not_lt.mpr hs) (Nat.le_trans (Nat.le_add_right _ _) hs) (Nat.le_succ_of_le hs))
    ⟨e1, e1', got_turn P.st ha e1 _ (List.append_toArray _ _) (r1.append r1') .none q⟩
end

inductive Low (n : Nat) : V → Prop
  | leaf {d : V} : d.leaf = true → Low n d
  | tup {l : List V} : (∀ d ∈ l, Low n d) → Low n (.tup l)
  | lst {l : List V} : (∀ d ∈ l, Low n d) → Low n (.lst l)
  | dct {l : List (Str × V)} : (∀ p ∈ l, Low n p.2) → Low n (.dct l)
  | loc {k : Nat} : k < n → Low n (.loc k)
  | obj {c : Addr} {k : Nat} : k < n → Low n (.obj c k)
def LowV (n : Nat) : V → Prop
  | .tup l => ∀ d ∈ l, Low n d
  | .lst l => ∀ d ∈ l, Low n d
  | .dct l => ∀ p ∈ l, Low n p.2
  | .loc k => k < n
  | .obj _ k => k < n
  | _ => True
theorem Low.inv {n : Nat} {d : V} (x : Low n d) : LowV n d := by
  cases x with
  | leaf h => cases d <;> first | exact trivial | exact Bool.noConfusion h
  | tup h => exact h
  | lst h => exact h
  | dct h => exact h
  | loc h => exact h
  | obj h => exact h
section
variable {C : Cx} {h h' : Heap} {ρ ρ' : Rg} {l f t : List Addr}
theorem all_cons {α : Type} {P : α → Prop} {a : α} {l : List α} (x : P a) (y : ∀ b ∈ l, P b) : ∀ b ∈ a :: l, P b := fun b m => (List.mem_cons.mp m).elim (fun e => e ▸ x) (y b)
theorem Rep.low {v : Value} {d : V} (r : Rep C h ρ v d) : Low ρ.l.length d :=
  Rep.rec (motive_1 := fun _ d _ => Low ρ.l.length d) (motive_2 := fun _ ds _ => ∀ d ∈ ds, Low ρ.l.length d) (motive_3 := fun _ ds _ => ∀ p ∈ ds, Low ρ.l.length p.2)
    (.leaf rfl) (fun _ => .leaf rfl) (fun _ _ => .leaf rfl) (fun _ _ _ => .leaf rfl) (fun _ _ _ _ k => .tup k) (fun _ _ _ _ k => .lst k) (fun _ _ _ _ _ _ k => .dct k) (fun e => .loc (List.getElem?_eq_some_iff.mp e).1) (fun _ _ _ e => .obj (List.getElem?_eq_some_iff.mp e).1)
    (fun _ m => nomatch m) (fun _ _ a b => all_cons a b) (fun _ m => nomatch m) (fun _ _ a b => all_cons a b) r
theorem RepL.low {v : List Value} {d : List V} (r : RepL C h ρ v d) : ∀ x ∈ d, Low ρ.l.length x := r.ind (P := fun _ d => ∀ x ∈ d, Low ρ.l.length x) (fun _ m => nomatch m) fun a _ k => all_cons a.low k
theorem RepK.low {v : List (Str × Value)} {d : List (Str × V)} (r : RepK C h ρ v d) : ∀ x ∈ d, Low ρ.l.length x.2 := r.ind (P := fun _ d => ∀ x ∈ d, Low ρ.l.length x.2) (fun _ m => nomatch m) fun a _ k => all_cons a.low k
theorem get_low {n : Nat} {a : Addr} (b : n < l.length) (e : (l ++ t)[n]? = some a) : l[n]? = some a := (List.getElem?_append_left b).symm.trans e
theorem notMem_low {a : Addr} (m : a ∉ l ++ t) : a ∉ l := fun q => m (List.mem_append_left _ q)
theorem Rep.cut {v : Value} {d : V} (r : Rep C h ⟨l ++ t, f⟩ v d) : Low l.length d → Rep C h ⟨l, f⟩ v d :=
  Rep.rec (C := C) (h := h) (ρ := ⟨l ++ t, f⟩) (motive_1 := fun v d _ => Low l.length d → Rep C h ⟨l, f⟩ v d) (motive_2 := fun vs ds _ => (∀ d ∈ ds, Low l.length d) → RepL C h ⟨l, f⟩ vs ds) (motive_3 := fun vs ds _ => (∀ p ∈ ds, Low l.length p.2) → RepK C h ⟨l, f⟩ vs ds)
    (fun _ => .none) (fun b _ => .bool b) (fun i t _ => .int i t) (fun s t k _ => .str s t k) (fun m n e _ k b => .tup (notMem_low m) n e (k b.inv)) (fun m n e _ k b => .lst (notMem_low m) n e (k b.inv)) (fun z m n e i _ k b => .dct z (notMem_low m) n e i (k b.inv))
    (fun e b => .loc (get_low b.inv e)) (fun m n e x b => .obj (notMem_low m) n e (get_low b.inv x))
    (fun _ => .nil) (fun _ _ a b q => .cons (a (q _ (.head _))) (b fun d m => q d (.tail _ m))) (fun _ => .nil) (fun _ _ a b q => .cons (a (q _ (.head _))) (b fun d m => q d (.tail _ m))) r
theorem RepL.cut {v : List Value} {d : List V} (r : RepL C h ⟨l ++ t, f⟩ v d) : (∀ x ∈ d, Low l.length x) → RepL C h ⟨l, f⟩ v d :=
  r.ind (P := fun v d => (∀ x ∈ d, Low l.length x) → RepL C h ⟨l, f⟩ v d) (fun _ => .nil) fun a _ k q => .cons (a.cut (q _ (.head _))) (k fun d m => q d (.tail _ m))
theorem RepK.cut {v : List (Str × Value)} {d : List (Str × V)} (r : RepK C h ⟨l ++ t, f⟩ v d) : (∀ x ∈ d, Low l.length x.2) → RepK C h ⟨l, f⟩ v d :=
  r.ind (P := fun v d => (∀ x ∈ d, Low l.length x.2) → RepK C h ⟨l, f⟩ v d) (fun _ => .nil) fun a _ k q => .cons (a.cut (q _ (.head _))) (k fun d m => q d (.tail _ m))
end
theorem pl_below {k : Nat} : ∀ {n : Nat} {d : V}, d.pl n = true → Low k d
  | 0, _, h => .leaf h
  | n + 1, d, h => by
    cases d with
    | tup l => exact .tup fun d m => pl_below (List.all_eq_true.mp h d m)
    | lst l => exact .lst fun d m => pl_below (List.all_eq_true.mp h d m)
    | _ => exact .leaf h
theorem pls_below {n k : Nat} {d : List V} (h : V.pls n d = true) : ∀ x ∈ d, Low k x := fun x m => pl_below (List.all_eq_true.mp h x m)
def frL (f : V → Option V) : List V → Option (List V)
  | [] => some []
  | d :: r => (f d).bind fun p => (frL f r).map (p :: ·)
def frK (f : V → Option V) : List (Str × V) → Option (List (Str × V))
  | [] => some []
  | d :: r => (f d.2).bind fun p => (frK f r).map ((d.1, p) :: ·)
def frS (f : V → Option V) (l : List V) : Option (List V) := cond (V.pls 30 l) (some l) (frL f l)
def frC (f : V → Option V) : Cell → Option V
  | .list xs => (frS f xs).map .lst
  | .dict xs => (frK f xs).map .dct
  | .seen _ => none
def frd (σ : List Cell) (n : Nat) : Nat → V → Option V
  | 0, _ => none
  | k + 1, d => match d with
    | .loc j => cond (Nat.blt j n) (some (.loc j)) ((σ[j]?).bind (frC (frd σ n k)))
    | .obj c j => cond (Nat.blt j n) (some (.obj c j)) none
    | .tup l => (frS (frd σ n k) l).map .tup
    | .lst l => (frS (frd σ n k) l).map .lst
    | .dct l => (frK (frd σ n k) l).map .dct
    | d => some d
def lowV (n : Nat) : V → Bool
  | .loc j => Nat.blt j n
  | .obj _ j => Nat.blt j n
  | d => d.pl 30
def plks (n : Nat) (l : List (Str × V)) : Bool := l.all fun p => lowV n p.2
theorem lowV_below {n : Nat} {d : V} (h : lowV n d = true) : Low n d := by
  cases d with
  | loc j => exact .loc (Nat.le_of_ble_eq_true h)
  | obj c j => exact .obj (Nat.le_of_ble_eq_true h)
  | _ => exact pl_below h
theorem plks_below {n : Nat} {l : List (Str × V)} (h : plks n l = true) : ∀ p ∈ l, Low n p.2 := fun p m => lowV_below (List.all_eq_true.mp h p m)
section
variable {C : Cx} {h : Heap} {l f t : List Addr} {σ : List Cell}
abbrev Stl (C : Cx) (h : Heap) (l t f : List Addr) (g : V → Option V) : Prop := ∀ v d d0, g d = some d0 → Rep C h ⟨l ++ t, f⟩ v d → Rep C h ⟨l, f⟩ v d0
theorem frL_ok {g : V → Option V} (hg : Stl C h l t f g) {vs : List Value} {ds : List V} (r : RepL C h ⟨l ++ t, f⟩ vs ds) : ∀ {ds0 : List V}, frL g ds = some ds0 → RepL C h ⟨l, f⟩ vs ds0 :=
  r.ind (P := fun vs ds => ∀ {ds0 : List V}, frL g ds = some ds0 → RepL C h ⟨l, f⟩ vs ds0) (fun e => Option.some.inj e ▸ .nil) fun a _ k ds0 e => by
    obtain ⟨p, h1, e⟩ := Option.bind_eq_some_iff.mp e
    obtain ⟨q, h2, rfl⟩ := Option.map_eq_some_iff.mp e
    exact .cons (hg _ _ _ h1 a) (k h2)
theorem frK_ok {g : V → Option V} (hg : Stl C h l t f g) {vs : List (Str × Value)} {ds : List (Str × V)} (r : RepK C h ⟨l ++ t, f⟩ vs ds) : ∀ {ds0 : List (Str × V)}, frK g ds = some ds0 → RepK C h ⟨l, f⟩ vs ds0 :=
  r.ind (P := fun vs ds => ∀ {ds0 : List (Str × V)}, frK g ds = some ds0 → RepK C h ⟨l, f⟩ vs ds0) (fun e => Option.some.inj e ▸ .nil) fun a _ k ds0 e => by
    obtain ⟨p, h1, e⟩ := Option.bind_eq_some_iff.mp e
    obtain ⟨q, h2, rfl⟩ := Option.map_eq_some_iff.mp e
    exact .cons (hg _ _ _ h1 a) (k h2)
theorem frS_ok {g : V → Option V} (hg : Stl C h l t f g) {vs : List Value} {ds ds0 : List V} (e : frS g ds = some ds0) (r : RepL C h ⟨l ++ t, f⟩ vs ds) : RepL C h ⟨l, f⟩ vs ds0 := by
  unfold frS at e
  cases p : V.pls 30 ds with
  | true => rw [p] at e; exact Option.some.inj e ▸ r.cut (pls_below p)
  | false => rw [p] at e; exact frL_ok hg r e
theorem cond_or {α : Type} {b : Bool} {x y : Option α} {z : α} (h : cond b x y = some z) : (b = true ∧ x = some z) ∨ (b = false ∧ y = some z) := by
  cases b with
  | true => exact .inl ⟨rfl, h⟩
  | false => exact .inr ⟨rfl, h⟩
theorem late_cell {n : Nat} {b : Addr} (nd : (l ++ t).Nodup) (nl : ¬ n < l.length) (e : (l ++ t)[n]? = some b) : b ∉ l := fun m => by
  obtain ⟨i, hi, ei⟩ := List.getElem_of_mem m
  have e2 : (l ++ t)[i]? = some b := (List.getElem?_append_left hi).trans (by rw [List.getElem?_eq_getElem hi, ei])
  exact nl ((List.getElem?_inj (List.getElem?_eq_some_iff.mp e2).1 nd).mp (e2.trans e.symm) ▸ hi)
theorem frd_ok (S : St C h ⟨l ++ t, f⟩ σ) : ∀ k, Stl C h l t f (frd σ l.length k)
  | 0, _, _, _, e, _ => nomatch e
  | k + 1, v, d, d0, e, R => by
    cases d with
    | loc j =>
      rcases cond_or e with ⟨lt, e⟩ | ⟨lt, e⟩
      · exact Option.some.inj e ▸ R.cut (.loc (Nat.le_of_ble_eq_true lt))
      · obtain ⟨c, ex, e⟩ := Option.bind_eq_some_iff.mp e
        obtain ⟨b, rfl, eb⟩ := R.sees
        have nb := late_cell S.nd (fun z => Bool.false_ne_true (lt.symm.trans (Nat.ble_eq_true_of_le z))) eb
        have mb : b ∈ l ++ t := List.mem_of_getElem? eb
        have nf : b ∉ f := S.dj b mb
        cases c with
        | list xs =>
          obtain ⟨vs, n, ha, r⟩ := S.cell j b _ eb ex
          obtain ⟨ys, h1, rfl⟩ := Option.map_eq_some_iff.mp e
          exact .lst nb nf ha (frS_ok (frd_ok S k) h1 r)
        | dict xs =>
          obtain ⟨o, kvs, ha, i, r⟩ := S.cell j b _ eb ex
          obtain ⟨ys, h1, rfl⟩ := Option.map_eq_some_iff.mp e
          exact .dct (S.sy b mb) nb nf ha i (frK_ok (frd_ok S k) r h1)
        | seen ks => exact nomatch e
    | obj c j =>
      rcases cond_or e with ⟨lt, e⟩ | ⟨lt, e⟩
      · exact Option.some.inj e ▸ R.cut (.obj (Nat.le_of_ble_eq_true lt))
      · exact nomatch e
    | tup l =>
      obtain ⟨ys, h1, rfl⟩ := Option.map_eq_some_iff.mp e
      obtain ⟨a, vs, n, rfl, m, nf, g, r⟩ := R.sees
      exact .tup (notMem_low m) nf g (frS_ok (frd_ok S k) h1 r)
    | lst l =>
      obtain ⟨ys, h1, rfl⟩ := Option.map_eq_some_iff.mp e
      obtain ⟨a, vs, n, rfl, m, nf, g, r⟩ := R.sees
      exact .lst (notMem_low m) nf g (frS_ok (frd_ok S k) h1 r)
    | dct l =>
      obtain ⟨ys, h1, rfl⟩ := Option.map_eq_some_iff.mp e
      obtain ⟨a, o, kvs, rfl, z, m, nf, g, i, r⟩ := R.sees
      exact .dct z (notMem_low m) nf g i (frK_ok (frd_ok S k) r h1)
    | _ => exact Option.some.inj e ▸ R.cut (.leaf rfl)
end
def plC (n : Nat) : Cell → Prop
  | .dict kvs => plks n kvs = true
  | _ => False
theorem none_ne {α : Type} {x : α} {P : Prop} (h : none = some x) : P := nomatch h
theorem ft {P : Prop} (h : false = true) : P := nomatch h
theorem tf {P : Prop} (h : true = false) : P := nomatch h
def lq (a b : List Nat) : Bool := @List.beq Nat ⟨Nat.beq⟩ a b
def sq (a b : Str) : Bool := lq a.cps.toList b.cps.toList
theorem sq_iff {a b : Str} : sq a b = true ↔ a = b := by
  haveI : @LawfulBEq Nat ⟨Nat.beq⟩ := @LawfulBEq.mk Nat ⟨Nat.beq⟩ (@ReflBEq.mk Nat ⟨Nat.beq⟩ fun {a} => Nat.beq_refl a) fun h => Nat.eq_of_beq_eq_true h
  refine (@beq_iff_eq _ (@List.instBEq _ ⟨Nat.beq⟩) _ a.cps.toList b.cps.toList).trans ⟨fun h => ?_, fun h => h ▸ rfl⟩
  obtain ⟨⟨a⟩⟩ := a
  obtain ⟨⟨b⟩⟩ := b
  exact congrArg (fun l => Str.mk ⟨l⟩) h
theorem sq_beq (a b : Str) : sq a b = (a == b) := Bool.eq_iff_iff.mpr (sq_iff.trans beq_iff_eq.symm)
theorem sq_inst : (⟨sq⟩ : BEq Str) = instBEqOfDecidableEq := congrArg BEq.mk (funext fun a => funext fun b => sq_beq a b)
def lkp {α : Type} (l : List (Str × α)) (x : Str) : Option α := @List.lookup _ α ⟨sq⟩ x l
theorem lkp_eq {α : Type} (l : List (Str × α)) (x : Str) : lkp l x = l.lookup x := congrArg (fun i => @List.lookup _ α i x l) sq_inst
def AllP {α : Type} (P : Str → α → Prop) : List (Str × α) → Prop
  | [] => True
  | p :: r => P p.1 p.2 ∧ AllP P r
theorem lkp_all {α : Type} {P : Str → α → Prop} {l : List (Str × α)} {x : Str} {v : α} (a : AllP P l) (h : lkp l x = some v) : P x v := by
  rw [lkp_eq] at h
  induction l with
  | nil => cases h
  | cons p r ih =>
    rw [lookup_if] at h
    by_cases q : p.1 = x
    · rw [if_pos q] at h; exact q ▸ Option.some.inj h ▸ a.1
    · rw [if_neg q] at h; exact ih a.2 h
def okF (l : List Nat) : Bool := l.all fun p => Nat.ble p 0x10ffff
theorem okF_eq (x : Str) : okF x.cps.toList = PyData.strOk x := by
  unfold okF PyData.strOk
  rw [← Array.all_toList]
  refine congrArg (x.cps.toList.all ·) (funext fun p => ?_)
  rw [Bool.eq_iff_iff, Nat.ble_eq, decide_eq_true_eq]
  exact Nat.lt_succ_iff.symm
def memF (x : Str) (l : List Str) : Bool := @List.elem _ ⟨sq⟩ x l
theorem memF_eq (x : Str) (l : List Str) : memF x l = l.contains x := congrArg (fun i => @List.elem _ i x l) sq_inst
def ndF : List Str → Bool
  | [] => true
  | p :: r => !memF p r && ndF r
theorem ndF_ok : ∀ {l : List Str}, ndF l = true → l.Nodup
  | [], _ => List.nodup_nil
  | p :: r, h => by
    have h := Bool.and_eq_true_iff.mp h
    rw [memF_eq, Bool.not_eq_true'] at h
    exact List.nodup_cons.mpr ⟨fun m => Bool.false_ne_true (h.1.symm.trans (List.contains_iff_mem.mpr m)), ndF_ok h.2⟩
def fputK {α : Type} : List (Str × α) → Str → α → List (Str × α)
  | [], k, v => [(k, v)]
  | p :: r, k, v => cond (sq p.1 k) ((p.1, v) :: r) (p :: fputK r k v)
theorem fputK_eq {α : Type} (k : Str) (v : α) : ∀ l : List (Str × α), fputK l k v = putK l k v
  | [] => rfl
  | (k', v') :: r => by
    show cond (sq k' k) ((k', v) :: r) ((k', v') :: fputK r k v) = if k' = k then (k', v) :: r else (k', v') :: putK r k v
    rw [fputK_eq k v r]
    by_cases e : k' = k
    · rw [if_pos e, sq_iff.mpr e]; rfl
    · rw [if_neg e, Bool.eq_false_iff.mpr fun h => e (sq_iff.mp h)]; rfl
def fputAll (acc r : List (Str × V)) : List (Str × V) := r.foldl (fun a p => fputK a p.1 p.2) acc
theorem fputAll_eq (a r : List (Str × V)) : fputAll a r = putAll a r := congrArg (fun f => r.foldl f a) (funext fun a => funext fun p => fputK_eq p.1 p.2 a)
def eqS (x : Str) : V → Bool
  | .str y => sq x y
  | _ => false
def veq (a b : V) : Bool := match a with
  | .str x => eqS x b
  | a => PyData.eqv a.py b.py
theorem veq_eq (a b : V) : veq a b = PyData.eqv a.py b.py := by
  cases a <;> first | rfl | (cases b <;> first | rfl | exact sq_beq _ _)
theorem any_veq (a : V) (xs : List V) : (xs.any fun y => veq y a) = ((V.pys xs).any fun y => PyData.eqv y a.py) := by
  induction xs with
  | nil => rfl
  | cons x xs ih => exact congr (congrArg or (veq_eq x a)) ih
def okNameF (x : Str) : Bool := !(sq x ("__debug__" : Str)) && !(sq x ("__classdict__" : Str))
theorem okNameF_eq (x : Str) : okNameF x = okName x := by unfold okNameF okName; rw [sq_beq, sq_beq]
structure FnT where
  addr : Addr
  as : List Arg
  body : List Stmt
  sc : Scope
  md : Nat
structure ClsT where
  addr : Addr
  init : FnT
  meths : List (Str × FnT)
  attrs : List Str
structure Tab where
  fns : List (Str × FnT)
  cls : List (Str × ClsT)
  glos : List (Str × V)
def grd {α : Type} (b : Bool) (x : α) : Option α := cond b (some x) none
theorem grd_ok {α : Type} {b : Bool} {x y : α} (h : grd b x = some y) : b = true ∧ x = y := by
  cases b with
  | false => cases h
  | true => exact ⟨rfl, Option.some.inj h⟩
def lcell (σ : List Cell) (n : Nat) : Option (List V) := (σ[n]?).bind fun c => match c with
  | .list l => some l
  | _ => none
def dcell (σ : List Cell) (n : Nat) : Option (List (Str × V)) := (σ[n]?).bind fun c => match c with
  | .dict l => some l
  | _ => none
def getL (σ : List Cell) : V → Option (List V)
  | .tup l => some l
  | .lst l => some l
  | .loc n => lcell σ n
  | _ => none
def getDc (σ : List Cell) : V → Option (List (Str × V))
  | .dct l => some l
  | .loc n => dcell σ n
  | _ => none
def getS (σ : List Cell) (n : Nat) : Option (List (List Str)) := (σ[n]?).bind fun c => match c with
  | .seen l => some l
  | .dict [] => some []
  | _ => none
def asB : V → Option Bool
  | .bool b => some b
  | _ => none
def asI : V → Option Int
  | .int i => some i
  | _ => none
def asS : V → Option Str
  | .str x => some x
  | _ => none
def asT : V → Option (List V)
  | .tup l => some l
  | _ => none
def asC : V → Option Nat
  | .loc n => some n
  | _ => none
def asO : V → Option (Addr × Nat)
  | .obj c n => some (c, n)
  | _ => none
def shownV (σ : List Cell) : V → Option V
  | .loc n => (lcell σ n).map .lst
  | d => some d
def strsOf : List V → Option (List Str)
  | [] => some []
  | d :: r => (asS d).bind fun x => (strsOf r).map (x :: ·)
def intsOf : List V → Option (List Int)
  | [] => some []
  | d :: r => (asI d).bind fun x => (intsOf r).map (x :: ·)
def hd1 {α : Type} : List α → Option α
  | [] => none
  | x :: r => cond r.isEmpty (some x) none
def asPair (d : V) : Option (Str × V) := (asT d).bind fun l => match l with
  | [] => none
  | k :: r => (asS k).bind fun x => (hd1 r).map fun v => (x, v)
def pairsOf : List V → Option (List (Str × V))
  | [] => some []
  | d :: r => (asPair d).bind fun x => (pairsOf r).map (x :: ·)
def addL (a b : V) (σ : List Cell) : Option V :=
  cond (isTup a || isTup b) none ((getL σ a).bind fun x => (getL σ b).bind fun y => grd (Nat.ble (x.length + y.length) 100000) (.lst (x ++ y)))
def int2 (a b : V) (k : Int → Int → Option V) : Option V := (asI a).bind fun i => (asI b).bind fun j => k i j
def addV (a b : V) (σ : List Cell) : Option V := match a with
  | .int i => (asI b).map fun j => .int (i + j)
  | .str x => (asS b).bind fun y => grd (Nat.ble (x.length + y.length) 1000) (.str (x ++ y))
  | .tup x => (asT b).bind fun y => grd (Nat.ble (x.length + y.length) 10000) (.tup (x ++ y))
  | a => addL a b σ
def evBop (op : Operator) (a b : V) (σ : List Cell) : Option V := match op with
  | .Add => addV a b σ
  | .Mult => int2 a b fun i j => grd (decide (-2 ^ 60 < i) && decide (i < 2 ^ 60)) (.int (i * j))
  | .Mod => int2 a b fun i j => grd (!(j == 0)) (.int (i.fmod j))
  | .RShift => int2 a b fun i j => grd (decide (0 ≤ j)) (.int (i.fdiv (2 ^ j.toNat)))
  | .BitAnd => int2 a b fun i j => some (.int (Builtin.bitAnd i j))
  | _ => none
def inL (a b : V) (σ : List Cell) : Option Bool := (getL σ b).bind fun xs => grd (V.pls 40 xs && a.pl 40) (xs.any fun y => veq y a)
def inD (x : Str) (b : V) (σ : List Cell) : Option Bool := match getDc σ b with
  | some kvs => some (lkp kvs x).isSome
  | none => inL (.str x) b σ
def inS (l : List V) (b : V) (σ : List Cell) : Option Bool := match (asC b).bind (getS σ) with
  | some kss => (strsOf l).map fun ks => kss.contains ks
  | none => inL (.tup l) b σ
def evIn (a b : V) (σ : List Cell) : Option Bool := match a with
  | .str x => inD x b σ
  | .tup l => inS l b σ
  | a => inL a b σ
def evNotIn (a b : V) (σ : List Cell) : Option Bool := match a with
  | .str x => (inD x b σ).map (!·)
  | a => (inL a b σ).map (!·)
def evEq (a b : V) (σ : List Cell) : Option Bool :=
  (shownV σ a).bind fun a' => (shownV σ b).bind fun b' => grd (a'.pl 40 && b'.pl 40) (veq a' b')
def evCop (op : CmpOp) (a b : V) (σ : List Cell) : Option Bool := match op with
  | .Eq => evEq a b σ
  | .NotEq => (evEq a b σ).map (!·)
  | .In => evIn a b σ
  | .NotIn => evNotIn a b σ
  | .Is => grd b.isN a.isN
  | .Lt => (asI a).bind fun i => (asI b).map fun j => decide (i < j)
  | .Gt => (asI a).bind fun i => (asI b).map fun j => decide (j < i)
  | .LtE => (asI a).bind fun i => (asI b).map fun j => decide (i ≤ j)
  | .GtE => (asI a).bind fun i => (asI b).map fun j => decide (j ≤ i)
  | _ => none
def evIdx (o i : V) (σ : List Cell) : Option V := match i with
  | .int k => (getL σ o).bind fun xs => cond (decide (-100000 < k) && decide (k < 100000)) ((seqIndex? k xs.length).bind fun j => xs[j]?) none
  | .str x => (getDc σ o).bind fun kvs => lkp kvs x
  | _ => none
def memN (n : Nat) (l : List Nat) : Bool := @List.elem _ ⟨Nat.beq⟩ n l
theorem nbeq_inst : (⟨Nat.beq⟩ : BEq Nat) = instBEqOfDecidableEq := congrArg BEq.mk (funext fun a => funext fun b => Bool.eq_iff_iff.mpr ((Iff.of_eq Nat.beq_eq).trans decide_eq_true_iff.symm))
def evSetK (lk : List Nat) (o i d : V) (σ : List Cell) : Option (List Cell) :=
  (asC o).bind fun n => cond (memN n lk) none (match i with
    | .str k => (dcell σ n).bind fun ds => grd (Nat.ble ds.length 900) (σ.set n (.dict (fputK ds k d)))
    | .tup l => (asB d).bind fun _ => (getS σ n).bind fun kss => (strsOf l).bind fun ks => grd (Nat.ble kss.length 900 && !kss.contains ks) (σ.set n (.seen (kss ++ [ks])))
    | _ => none)
inductive Mn where
  | append | extend | pop | remove | index | split
def mnT : List (Str × Mn) := [("append", .append), ("extend", .extend), ("pop", .pop), ("remove", .remove), ("index", .index), ("split", .split)]
abbrev mnOf (x : Str) : Option Mn := lkp mnT x
def updL (lk : List Nat) (d : V) (σ : List Cell) (g : List V → Option (V × List V)) : Option (V × List Cell) :=
  (asC d).bind fun n => cond (memN n lk) none ((lcell σ n).bind fun xs => cond (Nat.ble xs.length 50000) ((g xs).map fun p => (p.1, σ.set n (.list p.2))) none)
def hdS (l : List V) : Option Str := (hd1 l).bind asS
def splR (x y : Str) : Option (List Str) :=
  grd (!(decide (x.length < y.length) || decide (Builtin.Str.strKind x < Builtin.Str.strKind y)) && !(y.length == 0) && !(Builtin.Str.occurrences x y 0 x.length (x.length + 1)).isEmpty && decide (x.length ≤ 1000) &&
        (Builtin.Str.partsBetween x (Builtin.Str.occurrences x y 0 x.length (x.length + 1)) y.length).all PyData.strOk && decide ((Builtin.Str.partsBetween x (Builtin.Str.occurrences x y 0 x.length (x.length + 1)) y.length).length ≤ 1000))
      (Builtin.Str.partsBetween x (Builtin.Str.occurrences x y 0 x.length (x.length + 1)) y.length)
def popR (ds xs : List V) : Option (V × List V) := (hd1 ds).bind fun d => (asI d).bind fun i => cond (i == 0) (match xs with
  | [] => none
  | x :: r => some (x, r)) none
def evMeth (lk : List Nat) (mn : Mn) (d : V) (ds : List V) (σ : List Cell) : Option (V × List Cell) :=
  match mn with
  | .split => (asS d).bind fun x => (hdS ds).bind fun y => (splR x y).map fun l => (.lst (l.map .str), σ)
  | .index => cond (isTup d) none ((hdS ds).bind fun x => (getL σ d).bind fun xs => (strsOf xs).bind fun ss => grd (ss.contains x && Nat.ble ss.length 50000) (.int ((ss.findIdx (· == x) : Nat) : Int), σ))
  | .append => updL lk d σ fun xs => (hd1 ds).map fun x => (.none, xs ++ [x])
  | .extend => updL lk d σ fun xs => (hd1 ds).bind fun y => (getL σ y).bind fun ys => grd (Nat.ble ys.length 50000) (.none, xs ++ ys)
  | .pop => updL lk d σ (popR ds)
  | .remove => updL lk d σ fun xs => (hdS ds).bind fun x => (strsOf xs).bind fun ss => grd (ss.contains x) (.none, (ss.eraseIdx (ss.findIdx (· == x))).map .str)
def isL (σ : List Cell) (d : V) : Bool := !isTup d && (getL σ d).isSome
def tyOk (σ : List Cell) (d : V) : Mn → Bool
  | .split => (asS d).isSome
  | _ => isL σ d
inductive Bn where
  | len | list | tuple | abs | dict
def bnT : List (Str × Bn) := [("len", .len), ("list", .list), ("tuple", .tuple), ("abs", .abs), ("dict", .dict)]
abbrev bnOf (x : Str) : Option Bn := lkp bnT x
def ltL {α : Type} (σ : List Cell) (d : V) (g : List V → α) : Option α := (getL σ d).bind fun xs => grd (Nat.ble xs.length 100000) (g xs)
def evBui1 (b : Bn) (d : V) (σ : List Cell) : Option (V × List Cell) :=
  match b with
  | .len => ltL σ d fun xs => (.int xs.length, σ)
  | .list => ltL σ d fun xs => (.loc σ.length, σ ++ [.list xs])
  | .tuple => ltL σ d fun xs => (.tup xs, σ)
  | .abs => (asI d).map fun i => (.int (if i < 0 then -i else i), σ)
  | .dict => cond (isTup d) none ((getL σ d).bind fun xs => (pairsOf xs).bind fun ps => grd (Nat.ble ps.length 1000) (.loc σ.length, σ ++ [.dict (fputAll [] ps)]))
def evBui (b : Bn) (ds : List V) (σ : List Cell) : Option (V × List Cell) := (hd1 ds).bind fun d => evBui1 b d σ
def glob (nk : Nk) (x : Str) : Bool := lkp nk x == some .globalImplicit && okNameF x
theorem glob_iff {nk : Nk} {x : Str} : glob nk x = true ↔ nk.lookup x = some .globalImplicit ∧ okName x = true := by
  unfold glob
  rw [lkp_eq, okNameF_eq, Bool.and_eq_true, beq_iff_eq]
def isStarred (e : Expr) : Bool := Nat.beq e.ctorIdx 22
def noStar (es : List Expr) : Bool := es.all fun e => !isStarred e
def stoOk (nk : Nk) (x : Str) : Bool := (lkp nk x == some .local || lkp nk x == some .cell) && okNameF x
theorem stoOk_iff {nk : Nk} {x : Str} : stoOk nk x = true ↔ (nk.lookup x = some .local ∨ nk.lookup x = some .cell) ∧ okName x = true := by
  unfold stoOk
  rw [lkp_eq, okNameF_eq, Bool.and_eq_true, Bool.or_eq_true, beq_iff_eq, beq_iff_eq]
def rm (x : Str) (m : M) : M := m.filter fun p => !sq p.1 x
def nmA : Expr → Option Str
  | .Name x _ => some x
  | _ => none
def tupA : Expr → Option (List Expr)
  | .Tuple ts _ _ => some ts
  | _ => none
def tgt1 (nk : Nk) (t : Expr) (d : V) (m : M) : Option M := (nmA t).bind fun x => cond (stoOk nk x) (some ((x, d) :: rm x m)) none
def foldT (f : Expr → V → M → Option M) : List Expr → List V → M → Option M
  | [], ds, m => cond ds.isEmpty (some m) none
  | t :: ts, ds, m => match ds with
    | [] => none
    | d :: ds => (f t d m).bind fun m' => foldT f ts ds m'
def tgtS (nk : Nk) (f : Expr → V → M → Option M) (t : Expr) (d : V) (m : M) : Option M := match tupA t with
  | some ts => (asT d).bind fun ds => cond (noStar ts) (foldT f ts ds m) none
  | none => tgt1 nk t d m
def tgtK (nk : Nk) : Nat → Expr → V → M → Option M
  | 0 => tgt1 nk
  | k + 1 => tgtS nk (tgtK nk k)
abbrev tgtN (nk : Nk) (t : Expr) (d : V) (m : M) : Option M := tgtK nk 2 t d m
def isSet (e : Expr) : Bool := Nat.beq e.ctorIdx 7
def isSup (e : Expr) : Bool := Nat.beq e.ctorIdx 16
def isComp (e : Expr) : Bool := Nat.beq e.ctorIdx 8 || (Nat.beq e.ctorIdx 9 || Nat.beq e.ctorIdx 10)
def plainB (e : Expr) : Bool := Nat.beq e.ctorIdx 23 || (Nat.beq e.ctorIdx 16 || (Nat.beq e.ctorIdx 20 || (Nat.beq e.ctorIdx 21 || Nat.beq e.ctorIdx 19)))
def freeOk (nk l : Nk) : Bool := l.all fun p => !(p.2 == .free) || (lkp nk p.1 == some .cell || lkp nk p.1 == some .free)
def compOk (nk : Nk) (sc : Scope) : Bool := sc.kind == .function && (ndF (sc.names.map (·.1)) && freeOk nk sc.names)
def inner (sc : Scope) (m : M) : M := m.filter fun p => lkp sc.names p.1 == some .free
def lockOf : V → List Nat
  | .loc n => [n]
  | _ => []
def isTupE (e : Expr) : Bool := (tupA e).isSome
def cellOf : List V → Option Nat
  | .loc f :: _ => some f
  | .obj _ f :: _ => some f
  | _ => none
def constA : Expr → Option (Const × Nat × Pos)
  | .Constant c n p => some (c, n, p)
  | _ => none
def strA : Const → Option Str
  | .str x => some x
  | _ => none
def callA : Expr → Option (Expr × List Expr × List Keyword × Pos)
  | .Call f as kw p => some (f, as, kw, p)
  | _ => none
def attrA : Expr → Option (Expr × Str × Pos)
  | .Attribute o x p => some (o, x, p)
  | _ => none
def fmtA : Expr → Option (Expr × Int × Option Expr × Pos)
  | .FormattedValue e c sp p => some (e, c, sp, p)
  | _ => none
def slA : Expr → Option (Option Expr × Option Expr × Option Expr × Pos)
  | .Slice lo hi st p => some (lo, hi, st, p)
  | _ => none
def compA : Expr → Option (Expr × List Comprehension × Scope × Pos)
  | .ListComp elt gs sc p => some (elt, gs, sc, p)
  | _ => none
def subA : Expr → Option (Expr × Expr × Pos)
  | .Subscript o i p => some (o, i, p)
  | _ => none
structure Oth (e : Expr) : Prop where
  call : callA e = none
  nm : nmA e = none
  tup : tupA e = none
  attr : attrA e = none
  const : constA e = none
  fmt : fmtA e = none
  sl : slA e = none
  comp : compA e = none
  sub : subA e = none
theorem inv {P : Expr → Prop} (e : Expr) (call : ∀ f as kw p, P (.Call f as kw p)) (nm : ∀ x p, P (.Name x p)) (tup : ∀ ts i p, P (.Tuple ts i p)) (attr : ∀ o x p, P (.Attribute o x p)) (const : ∀ c n p, P (.Constant c n p)) (fmt : ∀ a c sp p, P (.FormattedValue a c sp p)) (sl : ∀ a b c p, P (.Slice a b c p)) (comp : ∀ a b c p, P (.ListComp a b c p)) (sub : ∀ a b p, P (.Subscript a b p)) (oth : Oth e → P e) : P e := by
  cases e with
  | Call f as kw p => exact call f as kw p
  | Name x p => exact nm x p
  | Tuple ts i p => exact tup ts i p
  | Attribute o x p => exact attr o x p
  | Constant c n p => exact const c n p
  | FormattedValue a c sp p => exact fmt a c sp p
  | Slice a b c p => exact sl a b c p
  | ListComp a b c p => exact comp a b c p
  | Subscript a b p => exact sub a b p
  | _ => exact oth ⟨rfl, rfl, rfl, rfl, rfl, rfl, rfl, rfl, rfl⟩
def itCall (e : Expr) : Option (Str × Expr) := (callA e).bind fun c => cond c.2.2.1.isEmpty ((nmA c.1).bind fun x => (hd1 c.2.1).map fun e => (x, e)) none
def keyS (e : Option Expr) : Option (Str × Nat × Pos) := e.bind fun e => (constA e).bind fun c => (strA c.1).map fun x => (x, c.2)
def evKeys : List (Option Expr) → Option (List (Str × Nat × Pos))
  | [] => some []
  | e :: r => (keyS e).bind fun k => (evKeys r).map (k :: ·)
def slcR (σ : List Cell) (lo hi : Option Int) (o : V) : Option V := ltL σ o fun xs => cond (isTup o) (.tup (slc xs lo hi)) (.lst (slc xs lo hi))
def clsOf (T : Tab) (c : Addr) : Option ClsT := (T.cls.find? fun p => p.2.addr == c).map (·.2)

structure BuiOk (C : Cx) : Prop where
  len : Bui C "len" (.builtin "len")
  list : Bui C "list" (.type "list")
  tuple : Bui C "tuple" (.type "tuple")
  dict : Bui C "dict" (.type "dict")
  abs : Bui C "abs" (.builtin "abs")
  range : Bui C "range" (.type "range")
  enumerate : Bui C "enumerate" (.type "enumerate")
  set : Bui C "set" (.type "set")
structure FnOk (C : Cx) (F : FnT) : Prop where
  is : ∃ fd, FnIs C.K F.addr F.as F.body F.sc fd
  nf : ∀ x, F.sc.names.lookup x ≠ some .free
structure TabOk (C : Cx) (T : Tab) : Prop where
  bui : BuiOk C
  fns : ∀ x F, T.fns.lookup x = some F → Glo C x (.ref F.addr) ∧ FnOk C F
  cls : ∀ x K, T.cls.lookup x = some K → Glo C x (.ref K.addr) ∧ ClsNew C.K K.addr K.init.addr ∧ FnOk C K.init
  meth : ∀ c K, clsOf T c = some K → ClsK C.K c ∧ (∀ name F, K.meths.lookup name = some F → findIn C.K (.ref c) name = some (some (.ref F.addr)) ∧ typeIn C.K (.ref F.addr) = some (.type "function") ∧ FnOk C F) ∧
    (∀ name, K.attrs.contains name = true → findIn C.K (.ref c) name = some none ∧ takerIn C.K c name = some none)
  glos : ∀ x d, T.glos.lookup x = some d → ∃ v, Glo C x v ∧ ∀ h ρ σ, St C h ρ σ → C.K.In h → Rep C h ρ v d
def Keep (lk : List Nat) (σ σ' : List Cell) : Prop := ∀ n ∈ lk, ∀ c, σ[n]? = some c → σ'[n]? = some c
abbrev Is (d : V) (σ' : List Cell) : V → List Cell → Prop := fun d' σ'' => d' = d ∧ σ'' = σ'
def Con (C : Cx) (T : Tab) (n : Nat) (F : FnT) (ds : List V) (σ : List Cell) (v : V) (σ' : List Cell) : Prop :=
  TabOk C T → FnOk C F → SC C (2 * n + 1) F.addr ds σ (Is v σ')
inductive An where
  | b (i : Nat) (b : Bool)
  | t (i : Nat) (b : Bool)
  | v (i : Nat) (v : V)
  | l (i : Nat) (l : List V)
  | w (i : Nat) (v : V) (s : List Cell)
  | s (i : Nat) (s : List Cell)
  | k (i : Nat) (d : List (Str × V))
  | c (i : Nat) (n : Nat) (v : V)
  | d (i : Nat) (n : Nat) (v : V) (s : List Cell)
  | r (i : Nat) (n : Nat) (v : V)
  | f (i : Nat) (f : Fl) (m : M) (s : List Cell)
  | m (i : Nat)
abbrev Qu := List An
def key (p : Pos) : Nat := Nat.add (Nat.mul p.line 1000) p.endCol
def An.pb (i : Nat) : An → Option Bool
  | .b j x => cond (Nat.beq i j) (some x) none
  | _ => none
def An.pt (i : Nat) : An → Option Bool
  | .t j x => cond (Nat.beq i j) (some x) none
  | _ => none
def An.pv (i : Nat) : An → Option V
  | .v j x => cond (Nat.beq i j) (some x) none
  | _ => none
def An.pl (i : Nat) : An → Option (List V)
  | .l j x => cond (Nat.beq i j) (some x) none
  | _ => none
def An.pw (i : Nat) : An → Option (V × List Cell)
  | .w j x z => cond (Nat.beq i j) (some (x, z)) none
  | _ => none
def An.ps (i : Nat) : An → Option (List Cell)
  | .s j x => cond (Nat.beq i j) (some x) none
  | _ => none
def An.pk (i : Nat) : An → Option (List (Str × V))
  | .k j x => cond (Nat.beq i j) (some x) none
  | _ => none
def An.pc (i : Nat) : An → Option (Nat × V)
  | .c j x z => cond (Nat.beq i j) (some (x, z)) none
  | _ => none
def An.pr (i : Nat) : An → Option (Nat × V)
  | .r j x z => cond (Nat.beq i j) (some (x, z)) none
  | _ => none
def An.pd (i : Nat) : An → Option (Nat × V × List Cell)
  | .d j x y z => cond (Nat.beq i j) (some (x, y, z)) none
  | _ => none
def An.pf (i : Nat) : An → Option (Fl × M × List Cell)
  | .f j x y z => cond (Nat.beq i j) (some (x, y, z)) none
  | _ => none
def An.pm (i : Nat) : An → Bool
  | .m j => Nat.beq i j
  | _ => false
def dropM (i : Nat) (q : Qu) : Qu := match q with
  | [] => []
  | a :: q' => cond (a.pm i) q' (a :: q')
def chk (b : Bool) (P : Prop) : Prop := match b with
  | true => P
  | false => False
def cnd (b : Bool) (P P' : Prop) : Prop := match b with
  | true => P
  | false => P'
def opt {α : Type} (x : Option α) (k : α → Prop) : Prop := match x with
  | some v => k v
  | none => False
def alt {α : Type} (x : Option α) (k : α → Prop) (no : Prop) : Prop := match x with
  | some v => k v
  | none => no
def hdq {α : Type} (pk : An → Option α) (q : Qu) (yes : Qu → α → Prop) (no : Prop) : Prop := match q with
  | [] => no
  | a :: q' => match pk a with
    | some v => yes q' v
    | none => no
def ask {α : Type} (pk : An → Option α) (q : Qu) (x : Option α) (k : Qu → α → Prop) : Prop := hdq pk q (fun q' v => x = some v ∧ k q' v) (opt x (k q))
def qs (x : Bool) (q : Qu) (P : Qu → Prop) : Prop := match x with
  | true => ∃ q, P q
  | false => P q
abbrev KV := Qu → V → List Cell → Prop
abbrev KX := Qu → Fl → M → List Cell → Prop
structure Ev where
  e : List Nat → Nk → Expr → Qu → M → List Cell → KV → Prop
  l : List Nat → Nk → List Expr → Qu → M → List Cell → (Qu → List V → List Cell → Prop) → Prop
  b : List Nat → Nk → Expr → Qu → M → List Cell → (Qu → Bool → List Cell → Prop) → Prop
  x : List Nat → Nk → List Stmt → Qu → M → List Cell → KX → Prop
section
variable (r : Ev) (lk : List Nat) (nk : Nk)
def evIfs : List Expr → Qu → M → List Cell → (Qu → Bool → List Cell → Prop) → Prop
  | [], q, _, σ, k => k q true σ
  | c :: cs, q, m, σ, k => r.b lk nk c q m σ fun q b σ => cnd b (evIfs cs q m σ k) (k q false σ)
def evTurn (elt : Expr) (ifs : List Expr) (q : Qu) (m : M) (σ : List Cell) (k : Qu → Option V → List Cell → Prop) : Prop :=
  evIfs r lk nk ifs q m σ fun q b σ => cnd b (r.e lk nk elt q m σ fun q d σ => k q (some d) σ) (k q none σ)
abbrev KT := Qu → M → List V → List Cell → Prop
def snocO (acc : List V) : Option V → List V
  | some d => acc ++ [d]
  | none => acc
def evTurns (x : Bool) (elt tgt : Expr) (ifs : List Expr) : List V → Qu → M → List Cell → List V → KT → Prop
  | [], q, m, σ, acc, k => k q m acc σ
  | d :: xs, q, m, σ, acc, k => opt (tgtN nk tgt d m) fun m => qs x q fun q => evTurn r lk nk elt ifs q m σ fun q o σ => chk (Nat.ble acc.length 100000) (evTurns x elt tgt ifs xs q m σ (snocO acc o) k)
def natOf : Int → Option Nat
  | .ofNat n => some n
  | _ => none
def rangeOf (ds : List V) : Option (List V) := (hd1 ds).bind fun d => (asI d).bind fun i => (natOf i).bind fun n => grd (Nat.ble n 1000000) (upTo n)
def enumOf (σ : List Cell) (ds : List V) : Option (List V) := (hd1 ds).bind fun d => cond (isTup d) none ((getL σ d).map (numd 0))
def lockHd : List V → List Nat
  | d :: _ => lockOf d
  | [] => []
def evIt (iter tgt : Expr) (q : Qu) (m : M) (σ : List Cell) (k : Qu → List V → List Nat → List Cell → Prop) : Prop :=
  alt (itCall iter) (fun xe => chk (glob nk xe.1 && !isStarred xe.2) (cnd (sq xe.1 "range") (r.l lk nk [xe.2] q m σ fun q ds σ => ask (An.pl (key iter.pos)) q (rangeOf ds) fun q xs => k q xs [] σ)
      (cnd (sq xe.1 "enumerate") (chk (isTupE tgt) (r.l lk nk [xe.2] q m σ fun q ds σ => ask (An.pl (key iter.pos)) q (enumOf σ ds) fun q xs => k q xs (lockHd ds) σ))
        (r.e lk nk iter q m σ fun q d σ => ask (An.pl (key iter.pos)) q (getL σ d) fun q xs => k q xs (lockOf d) σ))))
  (chk (!isSet iter) (r.e lk nk iter q m σ fun q d σ => ask (An.pl (key iter.pos)) q (getL σ d) fun q xs => k q xs (lockOf d) σ))
abbrev AccIs (vs : List V) (σ : List Cell) : KT := fun _ _ acc σ' => acc = vs ∧ σ' = σ
def loopC (i : Nat) (G : Bool → Qu → KT → Prop) (q : Qu) (σ : List Cell) (k : Qu → List V → List Cell → Prop) : Prop :=
  hdq (An.pl i) q (fun q' vs => G true [] (AccIs vs σ) ∧ k q' vs σ) (G false q fun q _ acc σ => k q acc σ)
def evComp (i : Nat) (elt tgt iter : Expr) (ifs : List Expr) (sc : Scope) (q : Qu) (m : M) (σ : List Cell) (k : Qu → List V → List Cell → Prop) : Prop :=
  chk (compOk nk sc) (evIt r lk nk iter tgt q m σ fun q xs lks σ => loopC i (fun x q => evTurns r (lks ++ lk) sc.names x elt tgt ifs xs q (inner sc m) σ []) q σ k)
def evTurn2 (tgt2 iter2 : Expr) (ifs : List Expr) (q : Qu) (m : M) (σ : List Cell) (k : Qu → Option (List V × List Nat) → List Cell → Prop) : Prop :=
  evIfs r lk nk ifs q m σ fun q b σ => cnd b (evIt r lk nk iter2 tgt2 q m σ fun q ys lks σ => k q (some (ys, lks)) σ) (k q none σ)
def evNest (x : Bool) (elt tgt tgt2 iter2 : Expr) (ifs ifs2 : List Expr) : List V → Qu → M → List Cell → List V → KT → Prop
  | [], q, m, σ, acc, k => k q m acc σ
  | d :: xs, q, m, σ, acc, k => opt (tgtN nk tgt d m) fun m => qs x q fun q => evTurn2 r lk nk tgt2 iter2 ifs q m σ fun q o σ =>
    alt o (fun p => evTurns r (p.2 ++ lk) nk x elt tgt2 ifs2 p.1 q m σ acc fun q m acc σ => evNest x elt tgt tgt2 iter2 ifs ifs2 xs q m σ acc k)
      (evNest x elt tgt tgt2 iter2 ifs ifs2 xs q m σ acc k)
def evComp2 (i : Nat) (elt tgt iter tgt2 iter2 : Expr) (ifs ifs2 : List Expr) (sc : Scope) (q : Qu) (m : M) (σ : List Cell) (k : Qu → List V → List Cell → Prop) : Prop :=
  chk (compOk nk sc && !isSet iter2) (evIt r lk nk iter tgt q m σ fun q xs lks σ => loopC i (fun x q => evNest r (lks ++ lk) sc.names x elt tgt tgt2 iter2 ifs ifs2 xs q (inner sc m) σ []) q σ k)
def evFor (x : Bool) (tgt : Expr) (body : List Stmt) : List V → Qu → M → List Cell → KX → Prop
  | [], q, m, σ, k => k q .next m σ
  | d :: xs, q, m, σ, k => opt (tgtN nk tgt d m) fun m => qs x q fun q => r.x lk nk body q m σ fun q f m σ => match f with
    | .next => evFor x tgt body xs q m σ k
    | .cont => evFor x tgt body xs q m σ k
    | .brk => k q .next m σ
    | .ret d => k q (.ret d) m σ
abbrev FlIs (f : Fl) (m : M) (σ : List Cell) : KX := fun _ f' m' σ' => f' = f ∧ m' = m ∧ σ' = σ
def forC (i : Nat) (G : Bool → Qu → KX → Prop) (q : Qu) (k : KX) : Prop :=
  hdq (An.pf i) q (fun q' a => G true [] (FlIs a.1 a.2.1 a.2.2) ∧ k q' a.1 a.2.1 a.2.2) (G false q k)
def evWhile (test : Expr) (body : List Stmt) : Nat → Qu → M → List Cell → KX → Prop
  | 0, _, _, _, _ => False
  | n + 1, q, m, σ, k => r.b lk nk test q m σ fun q b σ => cnd b (r.x lk nk body q m σ fun q f m σ => match f with
      | .next => evWhile test body n q m σ k
      | .cont => evWhile test body n q m σ k
      | .brk => k q .next m σ
      | .ret d => k q (.ret d) m σ) (k q .next m σ)
def evEs : List Expr → Qu → M → List Cell → (Qu → List V → List Cell → Prop) → Prop
  | [], q, _, σ, k => k q [] σ
  | e :: es, q, m, σ, k => r.e lk nk e q m σ fun q d σ => evEs es q m σ fun q ds σ => k q (d :: ds) σ
def catS (acc x : Str) : Option V := grd (Nat.ble (acc ++ x).length 10000) (.str (acc ++ x))
def fmtI (acc : Str) (i : Nat) : Option V := cond (Nat.blt i 1000000 && PyData.strOk (toString (i : Int) : String)) (catS acc (toString (i : Int) : String)) none
def fmtS (acc : Str) : V → Option V
  | .str x => catS acc x
  | .int i => (natOf i).bind (fmtI acc)
  | _ => none
def evFp (e : Expr) (acc : Str) (q : Qu) (m : M) (σ : List Cell) (k : Qu → Str → List Cell → Prop) : Prop :=
  alt (constA e) (fun c => opt (strA c.1) fun x => chk (okF x.cps.toList) (ask (An.pv (key e.pos)) q (catS acc x) fun q d => opt (asS d) fun y => k q y σ))
    (opt (fmtA e) fun c => chk (c.2.1 == -1 && c.2.2.1.isNone) (r.e lk nk c.1 q m σ fun q d σ => ask (An.pv (key e.pos)) q (fmtS acc d) fun q d => opt (asS d) fun y => k q y σ))
def evFstr : List Expr → Str → Qu → M → List Cell → (Qu → Str → List Cell → Prop) → Prop
  | [], acc, q, _, σ, k => k q acc σ
  | e :: es, acc, q, m, σ, k => evFp r lk nk e acc q m σ fun q y σ => evFstr es y q m σ k
def evBoolV (op : BoolOp) : List Expr → Expr → Qu → M → List Cell → (Qu → Bool → List Cell → Prop) → Prop
  | [], e, q, m, σ, k => r.e lk nk e q m σ fun q d σ => ask (An.pt (key e.pos)) q (asB d) fun q b => k q b σ
  | e' :: es, e, q, m, σ, k => r.e lk nk e q m σ fun q d σ => ask (An.pt (key e.pos)) q (asB d) fun q b => match op with
    | .And => cnd b (evBoolV op es e' q m σ k) (k q false σ)
    | .Or => cnd b (k q true σ) (evBoolV op es e' q m σ k)
def evAll (op : BoolOp) : List Expr → Qu → M → List Cell → (Qu → Bool → List Cell → Prop) → Prop
  | [], q, _, σ, k => k q (match op with
    | .And => true
    | .Or => false) σ
  | e :: es, q, m, σ, k => r.b lk nk e q m σ fun q b σ => match op with
    | .And => cnd b (evAll op es q m σ k) (k q false σ)
    | .Or => cnd b (k q true σ) (evAll op es q m σ k)
def evPart (e : Option Expr) (q : Qu) (m : M) (σ : List Cell) (k : Qu → Option Int → List Cell → Prop) : Prop := match e with
  | none => k q none σ
  | some e => r.e lk nk e q m σ fun q d σ => opt (asI d) fun i => k q (some i) σ
end
def retK (k : KV) : KX := fun q f m σ => match f with
  | .ret d => k q d σ
  | .next => k q .none σ
  | _ => False
section
variable (C : Cx) (T : Tab) (n : Nat) (r : Ev) (lk : List Nat)
def evRun (F : FnT) (q : Qu) (ds : List V) (σ : List Cell) (k : KV) : Prop :=
  chk (Nat.beq F.as.length ds.length) (r.x lk F.sc.names F.body q ((F.as.map (·.arg)).zip ds) σ (retK k))
def stillK (σ : List Cell) (k : KV) : KV := fun q d σ' => ask (An.pv 0) q (frd σ' σ.length 9 d) fun q d => k q d σ
def rng : Nat → List Nat → List Nat
  | 0, l => l
  | n + 1, l => rng n (n :: l)
def evSemi (F : FnT) (q : Qu) (ds : List V) (σ : List Cell) (fo : Option Nat) (k : KV) : Prop :=
  opt fo fun f => chk (!memN f lk) (evRun r ((List.range σ.length).filter (· != f)) F q ds σ fun q d σ' => ask (An.pk 0) q (dcell σ' f) fun q kvs => chk (plks σ.length kvs) (ask (An.pv 0) q (frd σ' σ.length 9 d) fun q d => k q d (σ.set f (.dict kvs))))
def evFn (F : FnT) (q : Qu) (ds : List V) (σ : List Cell) (k : KV) : Prop :=
  cnd (Nat.beq F.md 0) (evRun r lk F q ds σ k) (cnd (Nat.beq F.md 1) (evRun r (List.range σ.length) F q ds σ (stillK σ k))
    (evSemi r lk F q ds σ (cond (Nat.beq F.md 2) (cellOf ds) (cellOf ds.tail)) k))
def callC (i : Nat) (F : FnT) (q : Qu) (ds : List V) (σ : List Cell) (k : KV) : Prop :=
  hdq (An.pc i) q (fun q' a => chk (Nat.ble a.1 n) (Con C T a.1 F ds σ a.2 σ ∧ k q' a.2 σ))
    (hdq (An.pd i) q (fun q' a => chk (Nat.ble a.1 n) (Con C T a.1 F ds σ a.2.1 a.2.2 ∧ Keep lk σ a.2.2 ∧ k q' a.2.1 a.2.2))
    (hdq (An.pr i) q (fun q' a => (a.1 ≤ n ∧ Con C T a.1 F ds σ a.2 σ) ∧ k q' a.2 σ) (evFn r lk F q ds σ k)))
end
def specL (x : Str) (as : List Expr) (p : Pos) (a : Expr × Str × Pos) : Option (Bool × Expr) :=
  grd (as.isEmpty && (sq x "list" && (sq a.2.1 "items" && (!isSup a.1 && a.2.2.endLine == p.line)))) (true, a.1)
def specN (nk : Nk) (x : Str) (f : Expr) (as : List Expr) : Option (Bool × Expr) :=
  (nmA f).bind fun y => (hd1 as).bind fun e => grd (sq x "len" && (sq y "set" && (glob nk y && !isStarred e))) (false, e)
def specOf (nk : Nk) (x : Str) (es : List Expr) : Option (Bool × Expr) := (hd1 es).bind fun e0 => (callA e0).bind fun c => cond c.2.2.1.isEmpty ((attrA c.1).elim (specN nk x c.1 c.2.1) (specL x c.2.1 c.2.2.2)) none
def specV (σ : List Cell) (d : V) : Bool → Option V
  | true => (getDc σ d).bind fun kvs => grd (Nat.ble kvs.length 1000 && kvs.all fun p => okF p.1.cps.toList) (.lst (kvs.map pairV))
  | false => cond (isTup d) none ((getL σ d).bind fun xs => (intsOf xs).bind fun ns => grd (Nat.ble ns.length 100) (.int (nDiff ns)))
def revR (σ : List Cell) (d : V) : Option V := cond (isTup d) none (ltL σ d fun xs => .lst xs.reverse)
def dumEnv (nk : Nk) : Env := { scope := { kind := .function, names := nk, isGenerator := false, isCoroutine := false }, locals := 0, globals := 0, cells := nk.map fun p => (p.1, 1), qual := "", func := none, code := .none, frame := none, builtins := 0 }
def purA {α : Type} : Sem α → Option α
  | .pure a => some a
  | _ => none
section
variable (C : Cx) (T : Tab) (n : Nat) (r : Ev) (lk : List Nat) (nk : Nk)
def eName (x : Str) (q : Qu) (m : M) (σ : List Cell) (k : KV) : Prop :=
  alt (lkp m x) (fun d => k q d σ) (chk (glob nk x) (opt (lkp T.glos x) fun d => k q d σ))
def eConst (c : Const) (q : Qu) (σ : List Cell) (k : KV) : Prop := match c with
    | .int i => k q (.int i) σ
    | .str x => chk (okF x.cps.toList) (k q (.str x) σ)
    | .none => k q .none σ
    | .bool b => k q (.bool b) σ
    | _ => False
def eBin (i : Nat) (l : Expr) (op : Operator) (rr : Expr) (q : Qu) (m : M) (σ : List Cell) (k : KV) : Prop :=
  r.e lk nk l q m σ fun q a σ => r.e lk nk rr q m σ fun q b σ => ask (An.pv i) q (evBop op a b σ) fun q d => k q d σ
def eCmp1 (i : Nat) (l : Expr) (op : CmpOp) (rr : Expr) (q : Qu) (m : M) (σ : List Cell) (k : Qu → Bool → List Cell → Prop) : Prop :=
  chk (!behindInMarks op rr) (r.e lk nk l q m σ fun q a σ => r.e lk nk rr q m σ fun q b σ => ask (An.pb i) q (evCop op a b σ) fun q b => k q b σ)
def eCmp (i : Nat) (l : Expr) (ops : List CmpOp) (rs : List Expr) (q : Qu) (m : M) (σ : List Cell) (k : Qu → Bool → List Cell → Prop) : Prop :=
  opt (hd1 ops) fun op => opt (hd1 rs) fun rr => eCmp1 r lk nk i l op rr q m σ k
def eUn (op : UnaryOp) (e : Expr) (q : Qu) (m : M) (σ : List Cell) (k : KV) : Prop := match op with
  | .Not => r.e lk nk e q m σ fun q d σ => ask (An.pt (key e.pos)) q (asB d) fun q b => k q (.bool !b) σ
  | .USub => r.e lk nk e q m σ fun q d σ => opt (asI d) fun i => k q (.int (-i)) σ
  | _ => False
def eIf (t b o : Expr) (q : Qu) (m : M) (σ : List Cell) (k : KV) : Prop := r.b lk nk t q m σ fun q c σ => cnd c (r.e lk nk b q m σ k) (r.e lk nk o q m σ k)
def eTup (es : List Expr) (q : Qu) (m : M) (σ : List Cell) (k : KV) : Prop := chk (noStar es) (r.l lk nk es q m σ fun q ds σ => chk (Nat.ble ds.length 1000) (k q (.tup ds) σ))
def eLst (es : List Expr) (q : Qu) (m : M) (σ : List Cell) (k : KV) : Prop := chk (noStar es) (r.l lk nk es q m σ fun q ds σ => chk (Nat.ble ds.length 1000) (k q (.loc σ.length) (σ ++ [.list ds])))
def eDct (ks : List (Option Expr)) (es : List Expr) (q : Qu) (m : M) (σ : List Cell) (k : KV) : Prop :=
  opt (evKeys ks) fun kk => chk (Nat.beq kk.length es.length && (Nat.ble kk.length 15 && ndF (kk.map (·.1))))
      (evEs r lk nk es q m σ fun q ds σ => k q (.loc σ.length) (σ ++ [.dict ((kk.map (·.1)).zip ds)]))
def eComp (i : Nat) (elt : Expr) (gs : List Comprehension) (sc : Scope) (q : Qu) (m : M) (σ : List Cell) (k : KV) : Prop := match gs with
  | [] => False
  | g :: gs => chk (g.is_async == 0) (match gs with
    | [] => evComp r lk nk i elt g.target g.iter g.ifs sc q m σ fun q ds σ => k q (.lst ds) σ
    | g2 :: gs => chk (g2.is_async == 0 && gs.isEmpty) (evComp2 r lk nk i elt g.target g.iter g2.target g2.iter g.ifs g2.ifs sc q m σ fun q ds σ => k q (.lst ds) σ))
def eCallN (i : Nat) (x : Str) (es : List Expr) (q : Qu) (m : M) (σ : List Cell) (k : KV) : Prop := chk (glob nk x && noStar es)
  (alt (specOf nk x es) (fun we => r.e lk nk we.2 q m σ fun q d σ => ask (An.pv i) q (specV σ d we.1) fun q d => k q d σ)
    (alt (lkp T.fns x) (fun F => r.l lk nk es q m σ fun q ds σ => callC C T n r lk i F q ds σ k)
      (alt (lkp T.cls x) (fun K => chk (!es.isEmpty) (r.l lk nk es q m σ fun q ds σ => callC C T n r lk i K.init q (.obj K.addr σ.length :: ds) (σ ++ [.dict []]) fun q d σ' => chk d.isN (k q (.obj K.addr σ.length) σ')))
        (opt (bnOf x) fun b => r.l lk nk es q m σ fun q ds σ => ask (An.pw i) q (evBui b ds σ) fun q p => k q p.1 p.2))))
def eMeth (i : Nat) (name : Str) (es : List Expr) (d : V) (q : Qu) (m : M) (σ : List Cell) (k : KV) : Prop := opt (asO d) fun p => ask (An.pk i) q (dcell σ p.2) fun q kvs => chk (!(lkp kvs name).isSome) (opt (clsOf T p.1) fun K => opt (lkp K.meths name) fun F => r.l lk nk es q m σ fun q ds σ => callC C T n r lk i F q (d :: ds) σ k)
def eMethB (i : Nat) (mn : Mn) (es : List Expr) (d : V) (q : Qu) (m : M) (σ : List Cell) (k : KV) : Prop := ask (An.pt i) q (some (tyOk σ d mn)) fun q b => chk b (r.l lk nk es q m σ fun q ds σ => ask (An.pw i) q (evMeth lk mn d ds σ) fun q p => k q p.1 p.2)
def eCallM (i : Nat) (o : Expr) (name : Str) (apos : Pos) (es : List Expr) (pos : Pos) (q : Qu) (m : M) (σ : List Cell) (k : KV) : Prop :=
  chk (noStar es && (!isSup o && (Nat.beq apos.endLine pos.line && Nat.blt es.length 30))) (alt (mnOf name) (fun mn => r.e lk nk o q m σ fun q d σ => eMethB r lk nk i mn es d q m σ k) (r.e lk nk o q m σ fun q d σ => eMeth C T n r lk nk i name es d q m σ k))
def eCall (f : Expr) (es : List Expr) (kws : List Keyword) (pos : Pos) (q : Qu) (m : M) (σ : List Cell) (k : KV) : Prop := chk kws.isEmpty
  (alt (nmA f) (fun x => eCallN C T n r lk nk (key pos) x es q m σ k) (opt (attrA f) fun a => eCallM C T n r lk nk (key pos) a.1 a.2.1 a.2.2 es pos q m σ k))
def eAttr (i : Nat) (o : Expr) (name : Str) (q : Qu) (m : M) (σ : List Cell) (k : KV) : Prop := chk (!isSup o) (r.e lk nk o q m σ fun q d σ => opt (asO d) fun p => ask (An.pk i) q (dcell σ p.2) fun q kvs =>
  opt (clsOf T p.1) fun K => chk (memF name K.attrs) (opt (lkp kvs name) fun d => k q d σ))
def eSubS (i : Nat) (v : Expr) (lo hi st : Option Expr) (q : Qu) (m : M) (σ : List Cell) (k : KV) : Prop :=
  alt st (fun st => chk (lo.isNone && hi.isNone) (r.e lk nk v q m σ fun q o σ => r.e lk nk st q m σ fun q d σ => opt (asI d) fun j => chk (j == -1) (ask (An.pv i) q (revR σ o) fun q d => k q d σ)))
    (r.e lk nk v q m σ fun q o σ => evPart r lk nk lo q m σ fun q a σ => evPart r lk nk hi q m σ fun q b σ => ask (An.pv i) q (slcR σ a b o) fun q d => k q d σ)
def eSub (p : Nat) (v i : Expr) (q : Qu) (m : M) (σ : List Cell) (k : KV) : Prop :=
  alt (slA i) (fun s => eSubS r lk nk p v s.1 s.2.1 s.2.2.1 q m σ k) (r.e lk nk v q m σ fun q a σ => r.e lk nk i q m σ fun q b σ => ask (An.pv p) q (evIdx a b σ) fun q d => k q d σ)
def eJoin (es : List Expr) (q : Qu) (m : M) (σ : List Cell) (k : KV) : Prop := chk (Nat.blt 1 es.length) (evFstr r lk nk es Str.empty q m σ fun q x σ => k q (.str x) σ)
def evE (e : Expr) (q : Qu) (m : M) (σ : List Cell) (k : KV) : Prop := match e with
  | .Name x _ => eName T nk x q m σ k
  | .Constant c _ _ => eConst c q σ k
  | .BinOp l op rr p => eBin r lk nk (key p) l op rr q m σ k
  | .Compare l ops rs p => eCmp r lk nk (key p) l ops rs q m σ fun q b σ => k q (.bool b) σ
  | .BoolOp op es _ => (match es with
    | [] => False
    | e :: es => evBoolV r lk nk op es e q m σ fun q b σ => k q (.bool b) σ)
  | .UnaryOp op e _ => eUn r lk nk op e q m σ k
  | .IfExp t b o _ => eIf r lk nk t b o q m σ k
  | .Tuple es _ _ => eTup r lk nk es q m σ k
  | .List es _ => eLst r lk nk es q m σ k
  | .Dict ks es _ => eDct r lk nk ks es q m σ k
  | .ListComp elt gs sc p => eComp r lk nk (key p) elt gs sc q m σ k
  | .Call f es kws pos => eCall C T n r lk nk f es kws pos q m σ k
  | .Attribute o name p => eAttr T r lk nk (key p) o name q m σ k
  | .Subscript v i p => eSub r lk nk (key p) v i q m σ k
  | .JoinedStr es _ => eJoin r lk nk es q m σ k
  | _ => False
def evL (es : List Expr) (q : Qu) (m : M) (σ : List Cell) (k : Qu → List V → List Cell → Prop) : Prop := match es with
  | [] => k q [] σ
  | e :: es => chk (!isStarred e) (r.e lk nk e q m σ fun q d σ => r.l lk nk es q m σ fun q ds σ => k q (d :: ds) σ)
def evBp (e : Expr) (q : Qu) (m : M) (σ : List Cell) (k : Qu → Bool → List Cell → Prop) : Prop := chk (plainB e) (r.e lk nk e q m σ fun q d σ => ask (An.pt (key e.pos)) q (asB d) fun q b => k q b σ)
def evB (e : Expr) (q : Qu) (m : M) (σ : List Cell) (k : Qu → Bool → List Cell → Prop) : Prop := match e with
  | .Compare l ops rs p => eCmp r lk nk (key p) l ops rs q m σ k
  | .BoolOp op es _ => evAll r lk nk op es q m σ k
  | .UnaryOp op e _ => (match op with
    | .Not => r.b lk nk e q m σ fun q b σ => k q (!b) σ
    | _ => False)
  | e => evBp r lk nk e q m σ k
abbrev KM := Qu → M → List Cell → Prop
def evAsg1 (t : Expr) (d : V) (q : Qu) (m : M) (σ : List Cell) (k : KM) : Prop :=
  alt (subA t) (fun p => r.e lk nk p.1 q m σ fun q o σ => r.e lk nk p.2.1 q m σ fun q i σ => ask (An.ps (key t.pos)) q (evSetK lk o i d σ) fun q σ => k q m σ)
  (alt (attrA t) (fun p => r.e lk nk p.1 q m σ fun q o σ => opt (asO o) fun o => chk (!memN o.2 lk) (ask (An.pk (key t.pos)) q (dcell σ o.2) fun q kvs => opt (clsOf T o.1) fun K =>
      chk (memF p.2.1 K.attrs && Nat.ble kvs.length 900) (k q m (σ.set o.2 (.dict (fputK kvs p.2.1 d))))))
  (opt (tgtN nk t d m) fun m => k q m σ))
def evAsgs : List Expr → List V → Qu → M → List Cell → KM → Prop
  | [], _, q, m, σ, k => k q m σ
  | t :: ts, ds, q, m, σ, k => match ds with
    | [] => False
    | d :: ds => evAsg1 T r lk nk t d q m σ fun q m σ => evAsgs ts ds q m σ k
def evAsg (t : Expr) (d : V) (q : Qu) (m : M) (σ : List Cell) (k : KM) : Prop :=
  alt (tupA t) (fun ts => opt (asT d) fun ds => chk (noStar ts && Nat.beq ts.length ds.length) (evAsgs T r lk nk ts ds q m σ k)) (evAsg1 T r lk nk t d q m σ k)
def evAsC (t value : Expr) (q : Qu) (m : M) (σ : List Cell) (k : KM) : Prop := opt (nmA t) fun x => opt (compA value) fun v => opt (hd1 v.2.1) fun g => chk (g.is_async == 0 && stoOk nk x)
  (evComp r lk nk (key v.2.2.2) v.1 g.target g.iter g.ifs v.2.2.1 q m σ fun q acc σ => k q ((x, .lst acc) :: m) σ)
def evAs (t value : Expr) (pos : Pos) (q : Qu) (m : M) (σ : List Cell) (k : KM) : Prop :=
  opt (purA (swapsWith value (some t) pos.line (dumEnv nk))) fun sw => cnd sw (evAsC r lk nk t value q m σ k)
  (opt (purA (swappedStores [t] value (dumEnv nk))) fun ss => alt ss
    (fun names => chk ((tupA t).isSome && ((tupA value).isSome && names.all (stoOk nk))) (r.e lk nk value q m σ fun q d σ => opt (asT d) fun ds => chk (Nat.beq names.length ds.length) (k q (stoAll names.reverse ds.reverse m) σ)))
    (chk (!isStarred t) (r.e lk nk value q m σ fun q d σ => evAsg T r lk nk t d q m σ k)))
def evS (st : Stmt) (q : Qu) (m : M) (σ : List Cell) (k : KX) : Prop := match st with
  | .If t b o _ => r.b lk nk t q m σ fun q c σ => cnd c (r.x lk nk b q m σ k) (r.x lk nk o q m σ k)
  | .Return e _ => opt e fun e => r.e lk nk e q m σ fun q d σ => k q (.ret d) m σ
  | .Expr e _ => chk (!isComp e) (r.e lk nk e q m σ fun q d σ => chk d.isN (k q .next m σ))
  | .For tgt iter body els p => chk els.isEmpty (evIt r lk nk iter tgt q m σ fun q xs lks σ => forC (key p) (fun x q => evFor r (lks ++ lk) nk x tgt body xs q m σ) q k)
  | .While test body els _ => chk els.isEmpty (evWhile r lk nk test body 100 q m σ k)
  | .Assign ts value pos => opt (hd1 ts) fun t => evAs T r lk nk t value pos q m σ fun q m σ => k q .next m σ
  | _ => False
def evX (b : List Stmt) (q : Qu) (m : M) (σ : List Cell) (k : KX) : Prop := match b with
  | [] => k q .next m σ
  | st :: rest => evS T r lk nk st (dropM (key st.pos) q) m σ fun q f m σ => match f with
    | .next => r.x lk nk rest q m σ k
    | .brk => k q .brk m σ
    | .cont => k q .cont m σ
    | .ret d => k q (.ret d) m σ
end
def evStep (C : Cx) (T : Tab) (n : Nat) (r : Ev) : Ev where
  e := evE C T n r
  l := evL r
  b := evB r
  x := evX T r
def ev (C : Cx) (T : Tab) : Nat → Ev
  | 0 => ⟨fun _ _ _ _ _ _ _ => False, fun _ _ _ _ _ _ _ => False, fun _ _ _ _ _ _ _ => False, fun _ _ _ _ _ _ _ => False⟩
  | n + 1 => evStep C T n (ev C T n)

theorem Keep.refl {lk : List Nat} {σ : List Cell} : Keep lk σ σ := fun _ _ _ e => e
theorem Keep.trans {lk : List Nat} {σ σ' σ'' : List Cell} (a : Keep lk σ σ') (b : Keep lk σ' σ'') : Keep lk σ σ'' := fun n m c e => b n m c (a n m c e)
theorem Keep.snoc {lk : List Nat} {σ : List Cell} {c : Cell} : Keep lk σ (σ ++ [c]) := fun n m d e => by
  rw [List.getElem?_append_left (List.getElem?_eq_some_iff.mp e).1]; exact e
theorem Keep.set {lk : List Nat} {σ : List Cell} {n : Nat} {c : Cell} (h : lk.contains n = false) : Keep lk σ (σ.set n c) := fun k m d e => by
  have : n ≠ k := fun z => by subst z; rw [List.contains_iff_mem.mpr m] at h; cases h
  rw [List.getElem?_set_ne this]; exact e
theorem Keep.sub {lk lk' : List Nat} {σ σ' : List Cell} (k : Keep lk σ σ') (s : ∀ n ∈ lk', n ∈ lk) : Keep lk' σ σ' := fun n m c e => k n (s n m) c e
theorem lcell_ok {σ : List Cell} {n : Nat} {l : List V} (h : lcell σ n = some l) : σ[n]? = some (.list l) := by
  obtain ⟨c, e, h⟩ := Option.bind_eq_some_iff.mp h
  cases c with
  | list l => exact e.trans (congrArg (some ∘ Cell.list) (Option.some.inj h))
  | _ => exact none_ne h
theorem dcell_ok {σ : List Cell} {n : Nat} {l : List (Str × V)} (h : dcell σ n = some l) : σ[n]? = some (.dict l) := by
  obtain ⟨c, e, h⟩ := Option.bind_eq_some_iff.mp h
  cases c with
  | dict l => exact e.trans (congrArg (some ∘ Cell.dict) (Option.some.inj h))
  | _ => exact none_ne h
theorem seen_of {σ : List Cell} {n : Nat} {l : List (List Str)} (h : getS σ n = some l) : SeenAt σ n l := by
  obtain ⟨c, e, h⟩ := Option.bind_eq_some_iff.mp h
  cases c with
  | seen l => exact .inl (e.trans (congrArg (some ∘ Cell.seen) (Option.some.inj h)))
  | dict ds => cases ds with
    | nil => exact .inr ⟨e, (Option.some.inj h).symm⟩
    | cons _ _ => exact none_ne h
  | _ => exact none_ne h
theorem holds_of {σ : List Cell} {d : V} {xs : List V} (h : getL σ d = some xs) : Holds σ d xs := by
  cases d with
  | tup l => exact Option.some.inj h
  | lst l => exact Option.some.inj h
  | loc n => exact lcell_ok h
  | _ => exact none_ne h
theorem holdsD_of {σ : List Cell} {d : V} {xs : List (Str × V)} (h : getDc σ d = some xs) : HoldsD σ d xs := by
  cases d with
  | dct l => exact Option.some.inj h
  | loc n => exact dcell_ok h
  | _ => exact none_ne h
theorem asB_ok {d : V} {b : Bool} (h : asB d = some b) : d = .bool b := by cases d <;> first | exact congrArg _ (Option.some.inj h) | exact none_ne h
theorem asI_ok {d : V} {b : Int} (h : asI d = some b) : d = .int b := by cases d <;> first | exact congrArg _ (Option.some.inj h) | exact none_ne h
theorem asS_ok {d : V} {b : Str} (h : asS d = some b) : d = .str b := by cases d <;> first | exact congrArg _ (Option.some.inj h) | exact none_ne h
theorem asT_ok {d : V} {b : List V} (h : asT d = some b) : d = .tup b := by cases d <;> first | exact congrArg _ (Option.some.inj h) | exact none_ne h
theorem asC_ok {d : V} {b : Nat} (h : asC d = some b) : d = .loc b := by cases d <;> first | exact congrArg _ (Option.some.inj h) | exact none_ne h
theorem asO_ok {d : V} {b : Addr × Nat} (h : asO d = some b) : d = .obj b.1 b.2 := by cases d <;> first | exact congrArg (fun b : Addr × Nat => V.obj b.1 b.2) (Option.some.inj h) | exact none_ne h
theorem callA_ok {e : Expr} {c : Expr × List Expr × List Keyword × Pos} : callA e = some c → e = .Call c.1 c.2.1 c.2.2.1 c.2.2.2 :=
  inv (P := fun e => callA e = some c → e = .Call c.1 c.2.1 c.2.2.1 c.2.2.2) e (fun _ _ _ _ h => Option.some.inj h ▸ rfl) (fun _ _ => none_ne) (fun _ _ _ => none_ne) (fun _ _ _ => none_ne) (fun _ _ _ => none_ne) (fun _ _ _ _ => none_ne) (fun _ _ _ _ => none_ne) (fun _ _ _ _ => none_ne) (fun _ _ _ => none_ne) fun o h => none_ne (o.call.symm.trans h)
theorem nmA_ok {e : Expr} {x : Str} : nmA e = some x → ∃ p, e = .Name x p :=
  inv (P := fun e => nmA e = some x → ∃ p, e = .Name x p) e (fun _ _ _ _ => none_ne) (fun _ _ h => Option.some.inj h ▸ ⟨_, rfl⟩) (fun _ _ _ => none_ne) (fun _ _ _ => none_ne) (fun _ _ _ => none_ne) (fun _ _ _ _ => none_ne) (fun _ _ _ _ => none_ne) (fun _ _ _ _ => none_ne) (fun _ _ _ => none_ne) fun o h => none_ne (o.nm.symm.trans h)
theorem tupA_ok {e : Expr} {x : List Expr} : tupA e = some x → ∃ i p, e = .Tuple x i p :=
  inv (P := fun e => tupA e = some x → ∃ i p, e = .Tuple x i p) e (fun _ _ _ _ => none_ne) (fun _ _ => none_ne) (fun _ _ _ h => Option.some.inj h ▸ ⟨_, _, rfl⟩) (fun _ _ _ => none_ne) (fun _ _ _ => none_ne) (fun _ _ _ _ => none_ne) (fun _ _ _ _ => none_ne) (fun _ _ _ _ => none_ne) (fun _ _ _ => none_ne) fun o h => none_ne (o.tup.symm.trans h)
theorem attrA_ok {e : Expr} {c : Expr × Str × Pos} : attrA e = some c → e = .Attribute c.1 c.2.1 c.2.2 :=
  inv (P := fun e => attrA e = some c → e = .Attribute c.1 c.2.1 c.2.2) e (fun _ _ _ _ => none_ne) (fun _ _ => none_ne) (fun _ _ _ => none_ne) (fun _ _ _ h => Option.some.inj h ▸ rfl) (fun _ _ _ => none_ne) (fun _ _ _ _ => none_ne) (fun _ _ _ _ => none_ne) (fun _ _ _ _ => none_ne) (fun _ _ _ => none_ne) fun o h => none_ne (o.attr.symm.trans h)
theorem constA_ok {e : Expr} {c : Const × Nat × Pos} : constA e = some c → e = .Constant c.1 c.2.1 c.2.2 :=
  inv (P := fun e => constA e = some c → e = .Constant c.1 c.2.1 c.2.2) e (fun _ _ _ _ => none_ne) (fun _ _ => none_ne) (fun _ _ _ => none_ne) (fun _ _ _ => none_ne) (fun _ _ _ h => Option.some.inj h ▸ rfl) (fun _ _ _ _ => none_ne) (fun _ _ _ _ => none_ne) (fun _ _ _ _ => none_ne) (fun _ _ _ => none_ne) fun o h => none_ne (o.const.symm.trans h)
theorem fmtA_ok {e : Expr} {c : Expr × Int × Option Expr × Pos} : fmtA e = some c → e = .FormattedValue c.1 c.2.1 c.2.2.1 c.2.2.2 :=
  inv (P := fun e => fmtA e = some c → e = .FormattedValue c.1 c.2.1 c.2.2.1 c.2.2.2) e (fun _ _ _ _ => none_ne) (fun _ _ => none_ne) (fun _ _ _ => none_ne) (fun _ _ _ => none_ne) (fun _ _ _ => none_ne) (fun _ _ _ _ h => Option.some.inj h ▸ rfl) (fun _ _ _ _ => none_ne) (fun _ _ _ _ => none_ne) (fun _ _ _ => none_ne) fun o h => none_ne (o.fmt.symm.trans h)
theorem slA_ok {e : Expr} {c : Option Expr × Option Expr × Option Expr × Pos} : slA e = some c → e = .Slice c.1 c.2.1 c.2.2.1 c.2.2.2 :=
  inv (P := fun e => slA e = some c → e = .Slice c.1 c.2.1 c.2.2.1 c.2.2.2) e (fun _ _ _ _ => none_ne) (fun _ _ => none_ne) (fun _ _ _ => none_ne) (fun _ _ _ => none_ne) (fun _ _ _ => none_ne) (fun _ _ _ _ => none_ne) (fun _ _ _ _ h => Option.some.inj h ▸ rfl) (fun _ _ _ _ => none_ne) (fun _ _ _ => none_ne) fun o h => none_ne (o.sl.symm.trans h)
theorem compA_ok {e : Expr} {c : Expr × List Comprehension × Scope × Pos} : compA e = some c → e = .ListComp c.1 c.2.1 c.2.2.1 c.2.2.2 :=
  inv (P := fun e => compA e = some c → e = .ListComp c.1 c.2.1 c.2.2.1 c.2.2.2) e (fun _ _ _ _ => none_ne) (fun _ _ => none_ne) (fun _ _ _ => none_ne) (fun _ _ _ => none_ne) (fun _ _ _ => none_ne) (fun _ _ _ _ => none_ne) (fun _ _ _ _ => none_ne) (fun _ _ _ _ h => Option.some.inj h ▸ rfl) (fun _ _ _ => none_ne) fun o h => none_ne (o.comp.symm.trans h)
theorem subA_ok {e : Expr} {c : Expr × Expr × Pos} : subA e = some c → e = .Subscript c.1 c.2.1 c.2.2 :=
  inv (P := fun e => subA e = some c → e = .Subscript c.1 c.2.1 c.2.2) e (fun _ _ _ _ => none_ne) (fun _ _ => none_ne) (fun _ _ _ => none_ne) (fun _ _ _ => none_ne) (fun _ _ _ => none_ne) (fun _ _ _ _ => none_ne) (fun _ _ _ _ => none_ne) (fun _ _ _ _ => none_ne) (fun _ _ _ h => Option.some.inj h ▸ rfl) fun o h => none_ne (o.sub.symm.trans h)
theorem strA_ok {c : Const} {x : Str} (h : strA c = some x) : c = .str x := by cases c <;> first | exact congrArg _ (Option.some.inj h) | exact none_ne h
theorem isN_ok {d : V} (h : d.isN = true) : d = .none := by cases d <;> first | rfl | exact Bool.noConfusion h
theorem list_of {α β : Type} {f : β → Option α} {g : α → β} (fg : ∀ {d a}, f d = some a → d = g a) {F : List β → Option (List α)} (F0 : F [] = some []) (F1 : ∀ d r, F (d :: r) = (f d).bind fun x => (F r).map (x :: ·)) : ∀ {l : List β} {ks : List α}, F l = some ks → l = ks.map g
  | [], ks, h => by
    obtain rfl := Option.some.inj (F0.symm.trans h)
    rfl
  | d :: r, ks, h => by
    obtain ⟨a, e, h⟩ := Option.bind_eq_some_iff.mp ((F1 d r).symm.trans h)
    obtain ⟨t, e2, rfl⟩ := Option.map_eq_some_iff.mp h
    exact congr (congrArg List.cons (fg e)) (list_of fg F0 F1 e2)
theorem strs_of {l : List V} {ks : List Str} (h : strsOf l = some ks) : l = ks.map .str := list_of asS_ok rfl (fun _ _ => rfl) h
theorem ints_of {l : List V} {ks : List Int} (h : intsOf l = some ks) : l = ks.map .int := list_of asI_ok rfl (fun _ _ => rfl) h
theorem shown_of {σ : List Cell} {d e : V} (h : shownV σ d = some e) : Shown σ d e := by
  cases d with
  | loc n =>
    obtain ⟨xs, e, h⟩ := Option.map_eq_some_iff.mp h
    exact ⟨xs, lcell_ok e, h.symm⟩
  | _ => exact Option.some.inj h
theorem Got.to {C : Cx} {s : Shared} {ρ : Rg} {d : V} {σ' : List Cell} {v : Value} {s' : Shared} {Q : V → List Cell → Prop} (g : Got C s ρ (Is d σ') v s') (q : Q d σ') : Got C s ρ Q v s' := by
  obtain ⟨d, h', tk, ρ', σ', e, g, S, R, rfl, rfl⟩ := g
  exact ⟨_, h', tk, ρ', _, e, g, S, R, q⟩
section
variable {C : Cx} {H H' : Nat} {env : Env} {m m' : M} {σ σ' : List Cell}
theorem int2_ok {a b d : V} {k : Int → Int → Option V} (h : int2 a b k = some d) : ∃ i j, a = .int i ∧ b = .int j ∧ k i j = some d := by
  obtain ⟨i, ea, h⟩ := Option.bind_eq_some_iff.mp h
  obtain ⟨j, eb, h⟩ := Option.bind_eq_some_iff.mp h
  exact ⟨i, j, asI_ok ea, asI_ok eb, h⟩
theorem is_ {Q : V → List Cell → Prop} {d d' : V} (e : d = d') : Is d' σ d σ := ⟨e, rfl⟩
theorem addl_ok {a b d : V} (h : addL a b σ = some d) : Bop C H .Add a b σ (Is d σ) := by
  unfold addL at h
  cases ta : isTup a || isTup b with
  | true => rw [ta] at h; cases h
  | false =>
    rw [ta] at h
    have ta := Bool.or_eq_false_iff.mp ta
    obtain ⟨x, hx, h⟩ := Option.bind_eq_some_iff.mp h
    obtain ⟨y, hy, h⟩ := Option.bind_eq_some_iff.mp h
    obtain ⟨l, rfl⟩ := grd_ok h
    exact bop_addl (holds_of hx) (holds_of hy) ta.1 ta.2 (Nat.le_of_ble_eq_true l) ⟨rfl, rfl⟩
theorem addv_ok {a b d : V} (h : addV a b σ = some d) : Bop C H .Add a b σ (Is d σ) := by
  cases a with
  | int i =>
    obtain ⟨j, e, rfl⟩ := Option.map_eq_some_iff.mp h
    exact asI_ok e ▸ bop_add ⟨rfl, rfl⟩
  | str x =>
    obtain ⟨y, e, h⟩ := Option.bind_eq_some_iff.mp h
    obtain ⟨l, rfl⟩ := grd_ok h
    exact asS_ok e ▸ bop_cat (Nat.le_of_ble_eq_true l) ⟨rfl, rfl⟩
  | tup x =>
    obtain ⟨y, e, h⟩ := Option.bind_eq_some_iff.mp h
    obtain ⟨l, rfl⟩ := grd_ok h
    exact asT_ok e ▸ bop_addt (Nat.le_of_ble_eq_true l) ⟨rfl, rfl⟩
  | _ => exact addl_ok h
theorem bop_ok {op : Operator} {a b d : V} (h : evBop op a b σ = some d) : Bop C H op a b σ (Is d σ) := by
  cases op with
  | Add => exact addv_ok h
  | Mult =>
    obtain ⟨i, j, rfl, rfl, h⟩ := int2_ok h
    obtain ⟨l, rfl⟩ := grd_ok h
    have l := Bool.and_eq_true_iff.mp l
    exact bop_mul (of_decide_eq_true l.1) (of_decide_eq_true l.2) ⟨rfl, rfl⟩
  | Mod =>
    obtain ⟨i, j, rfl, rfl, h⟩ := int2_ok h
    obtain ⟨l, rfl⟩ := grd_ok h
    exact bop_mod (fun z => by rw [z] at l; cases l) ⟨rfl, rfl⟩
  | RShift =>
    obtain ⟨i, j, rfl, rfl, h⟩ := int2_ok h
    obtain ⟨l, rfl⟩ := grd_ok h
    exact bop_shr (of_decide_eq_true l) ⟨rfl, rfl⟩
  | BitAnd =>
    obtain ⟨i, j, rfl, rfl, h⟩ := int2_ok h
    exact Option.some.inj h ▸ bop_and ⟨rfl, rfl⟩
  | _ => exact none_ne h
theorem Cop.up {op : CmpOp} {a b : V} {Q : Bool → Prop} (x : Cop C H op a b σ Q) (l : H ≤ H') : Cop C H' op a b σ Q := fun A s ρ va vb P => x A s ρ va vb ⟨P.ok, P.am.le l, P.st⟩
theorem inl_ok {a b : V} {r : Bool} (h : inL a b σ = some r) : Cop C H .In a b σ (· = r) ∧ Cop C H .NotIn a b σ (· = !r) := by
  obtain ⟨xs, hx, h⟩ := Option.bind_eq_some_iff.mp h
  obtain ⟨l, rfl⟩ := grd_ok h
  have l := Bool.and_eq_true_iff.mp l
  exact ⟨cop_in (holds_of hx) l.1 l.2 (any_veq a xs).symm, cop_notin (holds_of hx) l.1 l.2 (congrArg not (any_veq a xs).symm)⟩
theorem nin_ok {a b : V} {r : Bool} (h : (inL a b σ).map (!·) = some r) : Cop C H .NotIn a b σ (· = r) := by
  obtain ⟨t, e, rfl⟩ := Option.map_eq_some_iff.mp h
  exact (inl_ok e).2
theorem ind_ok {x : Str} {b : V} {r : Bool} (h : inD x b σ = some r) : Cop C H .In (.str x) b σ (· = r) ∧ Cop C H .NotIn (.str x) b σ (· = !r) := by
  unfold inD at h
  cases e : getDc σ b with
  | none => rw [e] at h; exact inl_ok h
  | some kvs =>
    rw [e] at h
    obtain rfl := Option.some.inj h
    rw [lkp_eq]
    exact ⟨cop_ind (holdsD_of e) rfl, cop_notind (holdsD_of e) rfl⟩
theorem ins_ok {l : List V} {b : V} {r : Bool} (h : inS l b σ = some r) : Cop C H .In (.tup l) b σ (· = r) := by
  unfold inS at h
  cases e : (asC b).bind (getS σ) with
  | none => rw [e] at h; exact (inl_ok h).1
  | some kss =>
    rw [e] at h
    obtain ⟨n, e1, e2⟩ := Option.bind_eq_some_iff.mp e
    obtain ⟨ks, e3, rfl⟩ := Option.map_eq_some_iff.mp h
    rw [asC_ok e1, strs_of e3]
    exact cop_inseen (seen_of e2) rfl
theorem eqs_ok {a b : V} {r : Bool} (h : evEq a b σ = some r) : Cop C H .Eq a b σ (· = r) ∧ Cop C H .NotEq a b σ (· = !r) := by
  obtain ⟨a', ha, h⟩ := Option.bind_eq_some_iff.mp h
  obtain ⟨b', hb, h⟩ := Option.bind_eq_some_iff.mp h
  obtain ⟨l, rfl⟩ := grd_ok h
  have l := Bool.and_eq_true_iff.mp l
  rw [veq_eq]
  exact ⟨cop_eq (shown_of ha) (shown_of hb) l.1 l.2 rfl, cop_ne (shown_of ha) (shown_of hb) l.1 l.2 rfl⟩
theorem cmpI_ok {a b : V} {r : Bool} {f : Int → Int → Bool} (h : ((asI a).bind fun i => (asI b).map fun j => f i j) = some r) : ∃ i j, a = .int i ∧ b = .int j ∧ f i j = r := by
  obtain ⟨i, ea, h⟩ := Option.bind_eq_some_iff.mp h
  obtain ⟨j, eb, h⟩ := Option.map_eq_some_iff.mp h
  exact ⟨i, j, asI_ok ea, asI_ok eb, h⟩
theorem cop_ok {op : CmpOp} {a b : V} {r : Bool} (h : evCop op a b σ = some r) : Cop C H op a b σ (· = r) := by
  cases op with
  | Eq => exact (eqs_ok h).1
  | NotEq =>
    obtain ⟨t, e, rfl⟩ := Option.map_eq_some_iff.mp h
    exact (eqs_ok e).2
  | Is =>
    obtain ⟨l, rfl⟩ := grd_ok h
    exact isN_ok l ▸ cop_isnone rfl
  | In =>
    cases a with
    | str x => exact (ind_ok h).1
    | tup l => exact ins_ok h
    | _ => exact (inl_ok h).1
  | NotIn =>
    cases a with
    | str x =>
      obtain ⟨t, e, rfl⟩ := Option.map_eq_some_iff.mp h
      exact (ind_ok e).2
    | _ => exact nin_ok h
  | Lt =>
    obtain ⟨i, j, rfl, rfl, rfl⟩ := cmpI_ok h
    exact cop_lt rfl
  | Gt =>
    obtain ⟨i, j, rfl, rfl, rfl⟩ := cmpI_ok h
    exact cop_gt rfl
  | LtE =>
    obtain ⟨i, j, rfl, rfl, rfl⟩ := cmpI_ok h
    exact cop_le rfl
  | GtE =>
    obtain ⟨i, j, rfl, rfl, rfl⟩ := cmpI_ok h
    exact cop_ge rfl
  | _ => exact none_ne h
theorem cnd_ok {α : Type} {b : Bool} {x : Option α} {y : α} (h : cond b x none = some y) : b = true ∧ x = some y := by
  cases b with
  | false => cases h
  | true => exact ⟨rfl, h⟩
theorem cnd_no {α : Type} {b : Bool} {x : Option α} {y : α} (h : cond b none x = some y) : b = false ∧ x = some y := by
  cases b with
  | true => cases h
  | false => exact ⟨rfl, h⟩
theorem iop_ok {o i d : V} (h : evIdx o i σ = some d) : Iop C H o i σ (Is d σ) := by
  cases i with
  | int k =>
    obtain ⟨xs, hx, h⟩ := Option.bind_eq_some_iff.mp h
    obtain ⟨l, h⟩ := cnd_ok h
    obtain ⟨j, hj, h⟩ := Option.bind_eq_some_iff.mp h
    have l := Bool.and_eq_true_iff.mp l
    have l : -100000 < k ∧ k < 100000 := ⟨of_decide_eq_true l.1, of_decide_eq_true l.2⟩
    rcases @tup_or o with ⟨l', rfl⟩ | t
    · obtain rfl := Option.some.inj hx
      exact iop_tup hj l h ⟨rfl, rfl⟩
    · exact iop_lst (holds_of hx) t hj l h ⟨rfl, rfl⟩
  | str x =>
    obtain ⟨xs, hx, h⟩ := Option.bind_eq_some_iff.mp h
    exact iop_dict (holdsD_of hx) (lkp_eq xs x ▸ h) ⟨rfl, rfl⟩
  | _ => exact none_ne h
theorem memN_eq {k : Nat} {l : List Nat} (h : memN k l = false) : l.contains k = false := (congrArg (fun i => @List.elem _ i k l) nbeq_inst).symm.trans h
theorem uop_ok {lk : List Nat} {o i d : V} (h : evSetK lk o i d σ = some σ') : Keep lk σ σ' ∧ Uop C H o i d σ (· = σ') := by
  obtain ⟨n, en, h⟩ := Option.bind_eq_some_iff.mp h
  obtain ⟨z, h⟩ := cnd_no h
  have z := memN_eq z
  rw [asC_ok en]
  cases i with
  | str k =>
    obtain ⟨ds, e, h⟩ := Option.bind_eq_some_iff.mp h
    obtain ⟨l, rfl⟩ := grd_ok h
    exact ⟨.set z, uop_dict (dcell_ok e) (Nat.le_of_ble_eq_true l) (by rw [fputK_eq])⟩
  | tup l =>
    obtain ⟨b, eb, h⟩ := Option.bind_eq_some_iff.mp h
    obtain ⟨kss, hk, h⟩ := Option.bind_eq_some_iff.mp h
    obtain ⟨ks, hs, h⟩ := Option.bind_eq_some_iff.mp h
    obtain ⟨g, rfl⟩ := grd_ok h
    have g := Bool.and_eq_true_iff.mp g
    rw [asB_ok eb, strs_of hs]
    exact ⟨.set z, uop_seen (seen_of hk) (Nat.le_of_ble_eq_true g.1) ((Bool.not_eq_true' _).mp g.2) rfl⟩
  | _ => exact none_ne h
end

section
variable {C : Cx} {H H' : Nat} {env : Env} {m m' : M} {σ σ' : List Cell}
theorem star_cons {e : Expr} {es : List Expr} (h : isStarred e = false) : starEach (e :: es) env = (false, eval e env) :: starEach es env := by
  cases e <;> first | rfl | exact ft h | exact tf h
theorem asg_cons {e : Expr} {es : List Expr} (h : isStarred e = false) : assignEach (e :: es) env = (false, assign e env) :: assignEach es env := by
  cases e <;> first | rfl | exact ft h | exact tf h
theorem no_cons {e : Expr} {es : List Expr} (h : noStar (e :: es) = true) : isStarred e = false ∧ noStar es = true := (Bool.and_eq_true_iff.mp h).imp (Bool.not_eq_true' _).mp id
theorem star_any : ∀ {es : List Expr}, noStar es = true → (starEach es env).any (·.1) = false
  | [], _ => rfl
  | e :: es, h => by rw [star_cons (no_cons h).1]; exact star_any (no_cons h).2
theorem asg_eq : ∀ {es : List Expr}, noStar es = true → assignEach es env = es.map fun t => (false, assign t env)
  | [], _ => rfl
  | e :: es, h => by rw [asg_cons (no_cons h).1, asg_eq (no_cons h).2]; rfl
theorem fsi_plain {e : Expr} (h : isSet e = false) (env : Env) (x : Value) : foldedSetIterable e env x = pure x := by
  cases e <;> first | rfl | exact ft h | exact tf h
theorem base_plain {o : Expr} {name : Str} {env : Env} (h : isSup o = false) : attributeBase o name env (eval o env) = eval o env := by
  cases o <;> first | rfl | exact ft h | exact tf h
theorem isTrue_plain {e : Expr} (h : plainB e = true) (env : Env) (whole : Sem Value) : isTrue e env whole = (do let v ← whole; standAt e.pos; holding [v] (truthy v)) := by
  cases e <;> first | rfl | exact ft h | exact tf h
theorem sw_none {e : Expr} (h : isComp e = false) (l : Nat) (env : Env) : swapsWith e none l env = pure false := by
  cases e <;> first | rfl | exact ft h | exact tf h
theorem glob_out {nk : Nk} {x : Str} (K : Knows nk env) (h : glob nk x = true) : Out env x := by
  rw [glob_iff] at h
  exact ⟨K.out x h.1, (Bool.not_eq_true' _).mp (Bool.and_eq_true_iff.mp h.2).1⟩
theorem sto_of {nk : Nk} {x : Str} (K : Knows nk env) (h : stoOk nk x = true) : Sto env x := by
  rw [stoOk_iff] at h
  have ok := Bool.and_eq_true_iff.mp h.2
  refine ⟨h.1.imp (fun z => ⟨K.loc x z, .head _⟩) fun z => ?_, (Bool.not_eq_true' _).mp ok.1⟩
  obtain ⟨k, hc⟩ := K.cel x z
  obtain ⟨c, hc⟩ := Option.isSome_iff_exists.mp hc
  exact ⟨c, k, hc, (Bool.not_eq_true' _).mp ok.2, cell_envW (mem_of_lookup hc)⟩
theorem hd1_ok {α : Type} {l : List α} {x : α} (h : hd1 l = some x) : l = [x] := by
  cases l with
  | nil => exact none_ne h
  | cons y r => cases r with
    | nil => exact congrArg (fun x => [x]) (Option.some.inj h)
    | cons _ _ => exact none_ne h
theorem hdS_ok {ds : List V} {x : Str} (h : hdS ds = some x) : ds = [.str x] := by
  obtain ⟨d, e, h⟩ := Option.bind_eq_some_iff.mp h
  exact asS_ok h ▸ hd1_ok e
theorem pair_of {d : V} {p : Str × V} (h : asPair d = some p) : d = pairV p := by
  obtain ⟨l, e, h⟩ := Option.bind_eq_some_iff.mp h
  cases l with
  | nil => exact none_ne h
  | cons k r =>
    obtain ⟨x, e2, h⟩ := Option.bind_eq_some_iff.mp h
    obtain ⟨v, e3, rfl⟩ := Option.map_eq_some_iff.mp h
    rw [asT_ok e, asS_ok e2, hd1_ok e3]
theorem pairs_of {l : List V} {ps : List (Str × V)} (h : pairsOf l = some ps) : l = ps.map pairV := list_of pair_of rfl (fun _ _ => rfl) h
abbrev Runs (C : Cx) (lk : List Nat) (H : Nat) (f : Value) (ds : List V) (σ : List Cell) (p : V × List Cell) : Prop := Keep lk σ p.2 ∧ BC C H f ds σ (Is p.1 p.2)
theorem lt_ok {α : Type} {d : V} {g : List V → α} {p : α} (h : ltL σ d g = some p) : ∃ xs, getL σ d = some xs ∧ xs.length ≤ 100000 ∧ g xs = p := by
  obtain ⟨xs, hx, h⟩ := Option.bind_eq_some_iff.mp h
  obtain ⟨l, h⟩ := grd_ok h
  exact ⟨xs, hx, Nat.le_of_ble_eq_true l, h⟩
def fvB : Bn → Value
  | .len => .builtin "len"
  | .list => .type "list"
  | .tuple => .type "tuple"
  | .abs => .builtin "abs"
  | .dict => .type "dict"
theorem bn_ok (B : BuiOk C) {x : Str} {b : Bn} (h : bnOf x = some b) : Bui C x (fvB b) := lkp_all (l := bnT) (P := fun x b => Bui C x (fvB b)) ⟨B.len, B.list, B.tuple, B.abs, B.dict, trivial⟩ h
theorem kp_b (b : Bn) : keeperOf (fvB b) = pure .machine := by cases b <;> rfl
theorem bui_ok {lk : List Nat} {b : Bn} {ds : List V} {p : V × List Cell} (h : evBui b ds σ = some p) : Runs C lk H (fvB b) ds σ p := by
  obtain ⟨d, hd, h⟩ := Option.bind_eq_some_iff.mp h
  rw [hd1_ok hd]
  cases b with
  | len =>
    obtain ⟨xs, hx, l, rfl⟩ := lt_ok h
    exact ⟨.refl, bc_len (holds_of hx) (Nat.le_trans l (by decide)) ⟨rfl, rfl⟩⟩
  | list =>
    obtain ⟨xs, hx, l, rfl⟩ := lt_ok h
    exact ⟨.snoc, bc_list (holds_of hx) l ⟨rfl, rfl⟩⟩
  | tuple =>
    obtain ⟨xs, hx, l, rfl⟩ := lt_ok h
    rcases @tup_or d with ⟨l', rfl⟩ | t
    · exact ⟨.refl, Option.some.inj hx ▸ bc_tuple_tup ⟨rfl, rfl⟩⟩
    · exact ⟨.refl, bc_tuple_lst (holds_of hx) t l ⟨rfl, rfl⟩⟩
  | abs =>
    obtain ⟨i, hi, rfl⟩ := Option.map_eq_some_iff.mp h
    exact ⟨.refl, asI_ok hi ▸ bc_abs ⟨rfl, rfl⟩⟩
  | dict =>
    obtain ⟨t, h⟩ := cnd_no h
    obtain ⟨xs, hx, h⟩ := Option.bind_eq_some_iff.mp h
    obtain ⟨ps, hp, h⟩ := Option.bind_eq_some_iff.mp h
    obtain ⟨l, rfl⟩ := grd_ok h
    rw [fputAll_eq]
    exact ⟨.snoc, bc_dict (pairs_of hp ▸ holds_of hx) t (Nat.le_of_ble_eq_true l) ⟨rfl, rfl⟩⟩
theorem findIdx_at {ss : List Str} {x : Str} (h : ss.contains x = true) : ss[ss.findIdx (· == x)]? = some x ∧ ∀ i, i < ss.findIdx (· == x) → ss[i]? ≠ some x := by
  have lt : ss.findIdx (· == x) < ss.length := List.findIdx_lt_length_of_exists ⟨x, List.contains_iff_mem.mp h, beq_self_eq_true x⟩
  refine ⟨(List.getElem?_eq_getElem lt).trans (congrArg some (beq_iff_eq.mp (List.findIdx_getElem (w := lt)))), fun i li e => ?_⟩
  obtain ⟨l2, e⟩ := List.getElem?_eq_some_iff.mp e
  exact Bool.false_ne_true ((List.not_of_lt_findIdx li).symm.trans (beq_iff_eq.mpr e))
def tyM : Mn → String
  | .split => "str"
  | _ => "list"
def idM : Mn → String
  | .append => "list.append"
  | .extend => "list.extend"
  | .pop => "list.pop"
  | .remove => "list.remove"
  | .index => "list.index"
  | .split => "str.split"
def MnOk (name : Str) (mn : Mn) : Prop := PlainAttrs (tyM mn) ∧ Slot (tyM mn) name (idM mn) ∧ typeOf (.builtin (idM mn)) = pure (.type "method_descriptor")
theorem mn_ok {name : Str} {mn : Mn} (h : mnOf name = some mn) : MnOk name mn :=
  lkp_all (l := mnT) (P := MnOk) ⟨⟨PySem.F.plainAttrs_list, PySem.F.slot_list_append, PySem.F.type_list_append⟩, ⟨PySem.F.plainAttrs_list, PySem.F.slot_list_extend, PySem.F.type_list_extend⟩, ⟨PySem.F.plainAttrs_list, PySem.F.slot_list_pop, PySem.F.type_list_pop⟩,
    ⟨PySem.F.plainAttrs_list, PySem.F.slot_list_remove, PySem.F.type_list_remove⟩, ⟨PySem.F.plainAttrs_list, PySem.F.slot_list_index, PySem.F.type_list_index⟩, ⟨PySem.F.plainAttrs_str, PySem.F.slot_str_split, PySem.F.type_str_split⟩, trivial⟩ h
inductive UpdAt (lk : List Nat) (d : V) (σ : List Cell) (g : List V → Option (V × List V)) (p : V × List Cell) : Prop
  | mk (n : Nat) (xs : List V) (q : V × List V) (ed : d = .loc n) (z : lk.contains n = false) (e : σ[n]? = some (.list xs)) (l : xs.length ≤ 50000) (hg : g xs = some q) (ep : (q.1, σ.set n (.list q.2)) = p)
theorem upd_ok {lk : List Nat} {d : V} {g : List V → Option (V × List V)} {p : V × List Cell} (h : updL lk d σ g = some p) : UpdAt lk d σ g p := by
  obtain ⟨n, en, h⟩ := Option.bind_eq_some_iff.mp h
  obtain ⟨z, h⟩ := cnd_no h
  obtain ⟨xs, hx, h⟩ := Option.bind_eq_some_iff.mp h
  obtain ⟨l, h⟩ := cnd_ok h
  obtain ⟨q, hq, h⟩ := Option.map_eq_some_iff.mp h
  exact ⟨n, xs, q, asC_ok en, memN_eq z, lcell_ok hx, Nat.le_of_ble_eq_true l, hq, h⟩
theorem meth_ok {lk : List Nat} {mn : Mn} {d : V} {ds : List V} {p : V × List Cell} (h : evMeth lk mn d ds σ = some p) : Runs C lk H (.builtin (idM mn)) (d :: ds) σ p := by
  cases mn with
  | append =>
    obtain ⟨n, xs, q, rfl, z, e, l, hg, rfl⟩ := upd_ok h
    obtain ⟨x, hx, rfl⟩ := Option.map_eq_some_iff.mp hg
    rw [hd1_ok hx]
    exact ⟨.set z, bc_append e (Nat.le_trans l (by decide)) ⟨rfl, rfl⟩⟩
  | extend =>
    obtain ⟨n, xs, q, rfl, z, e, l, hg, rfl⟩ := upd_ok h
    obtain ⟨y, hy, hg⟩ := Option.bind_eq_some_iff.mp hg
    obtain ⟨ys, hx, hg⟩ := Option.bind_eq_some_iff.mp hg
    obtain ⟨l2, rfl⟩ := grd_ok hg
    have l3 := Nat.add_le_add l (Nat.le_of_ble_eq_true l2)
    rw [hd1_ok hy]
    rcases @tup_or y with ⟨l', rfl⟩ | t
    · obtain rfl := Option.some.inj hx
      exact ⟨.set z, bc_extendT e l3 ⟨rfl, rfl⟩⟩
    · exact ⟨.set z, bc_extend e (holds_of hx) t l3 ⟨rfl, rfl⟩⟩
  | pop =>
    obtain ⟨n, xs, q, rfl, z, e, l, hg, rfl⟩ := upd_ok h
    obtain ⟨y, hy, hg⟩ := Option.bind_eq_some_iff.mp hg
    obtain ⟨i, hi, hg⟩ := Option.bind_eq_some_iff.mp hg
    obtain ⟨i0, hg⟩ := cnd_ok hg
    obtain rfl := beq_iff_eq.mp i0
    rw [hd1_ok hy, asI_ok hi]
    cases xs with
    | nil => exact none_ne hg
    | cons x r =>
      obtain rfl := Option.some.inj hg
      exact ⟨.set z, bc_pop0 e (Nat.le_trans (Nat.le_of_succ_le l) (by decide)) ⟨rfl, rfl⟩⟩
  | remove =>
    obtain ⟨n, xs, q, rfl, z, e, l, hg, rfl⟩ := upd_ok h
    obtain ⟨x, hx, hg⟩ := Option.bind_eq_some_iff.mp hg
    obtain ⟨ss, hs, hg⟩ := Option.bind_eq_some_iff.mp hg
    obtain ⟨hc, rfl⟩ := grd_ok hg
    obtain rfl := strs_of hs
    obtain ⟨f1, f2⟩ := findIdx_at hc
    rw [List.length_map] at l
    exact ⟨.set z, hdS_ok hx ▸ bc_remove e (Nat.le_trans l (by decide)) f1 f2 ⟨rfl, rfl⟩⟩
  | index =>
    obtain ⟨t, h⟩ := cnd_no h
    obtain ⟨x, hx, h⟩ := Option.bind_eq_some_iff.mp h
    obtain ⟨xs, hy, h⟩ := Option.bind_eq_some_iff.mp h
    obtain ⟨ss, hs, h⟩ := Option.bind_eq_some_iff.mp h
    obtain ⟨l, rfl⟩ := grd_ok h
    have l := Bool.and_eq_true_iff.mp l
    obtain rfl := strs_of hs
    obtain ⟨f1, f2⟩ := findIdx_at l.1
    exact ⟨.refl, hdS_ok hx ▸ bc_index (holds_of hy) t (Nat.le_trans (Nat.le_of_ble_eq_true l.2) (by decide)) f1 f2 ⟨rfl, rfl⟩⟩
  | split =>
    obtain ⟨x, hx, h⟩ := Option.bind_eq_some_iff.mp h
    obtain ⟨y, hy, h⟩ := Option.bind_eq_some_iff.mp h
    obtain ⟨l, hl, rfl⟩ := Option.map_eq_some_iff.mp h
    obtain ⟨g, rfl⟩ := grd_ok hl
    obtain ⟨g, g6⟩ := Bool.and_eq_true_iff.mp g
    obtain ⟨g, g5⟩ := Bool.and_eq_true_iff.mp g
    obtain ⟨g, g4⟩ := Bool.and_eq_true_iff.mp g
    obtain ⟨g, g3⟩ := Bool.and_eq_true_iff.mp g
    obtain ⟨g1, g2⟩ := Bool.and_eq_true_iff.mp g
    rw [asS_ok hx, hdS_ok hy]
    exact ⟨.refl, bc_split ((Bool.not_eq_true' _).mp g1) ((Bool.not_eq_true' _).mp g2) ((Bool.not_eq_true' _).mp g3) (of_decide_eq_true g4) rfl g5 (of_decide_eq_true g6) ⟨rfl, rfl⟩⟩
theorem ty_ok {d : V} {mn : Mn} (h : tyOk σ d mn = true) : TyIs C (tyM mn) d σ := by
  have li : isL σ d = true → TyIs C "list" d σ := fun h => by
    obtain ⟨t, h⟩ := Bool.and_eq_true_iff.mp h
    obtain ⟨xs, hx⟩ := Option.isSome_iff_exists.mp h
    exact ty_list (holds_of hx) ((Bool.not_eq_true' _).mp t)
  cases mn with
  | split =>
    obtain ⟨x, hx⟩ := Option.isSome_iff_exists.mp h
    exact asS_ok hx ▸ ty_str
  | _ => exact li h
end
section
variable {C : Cx} {T : Tab} {H : Nat} {env : Env} {nk : Nk} {m m' : M} {σ σ' : List Cell} {lk : List Nat}
theorem lookup_filter {f : Str → Bool} {y : Str} {d : V} : ∀ {m : M}, (m.filter fun p => f p.1).lookup y = some d → f y = true ∧ m.lookup y = some d
  | [], h => none_ne h
  | p :: r, h => by
    rw [lookup_if]
    cases e : f p.1 with
    | false =>
      rw [List.filter_cons_of_neg (p := fun p => f p.1) (a := p) (fun z => Bool.false_ne_true (e.symm.trans z))] at h
      obtain ⟨h1, h2⟩ := lookup_filter h
      rw [if_neg fun z : p.1 = y => Bool.false_ne_true (e.symm.trans (z ▸ h1))]
      exact ⟨h1, h2⟩
    | true =>
      rw [List.filter_cons_of_pos (p := fun p => f p.1) (a := p) e, lookup_if] at h
      by_cases z : p.1 = y
      · rw [if_pos z] at h ⊢; exact ⟨z ▸ e, h⟩
      · rw [if_neg z] at h ⊢; exact lookup_filter h
theorem rm_cons {x : Str} {v : V} (y : Str) (d : V) (h : ((x, v) :: rm x m).lookup y = some d) : ((x, v) :: m).lookup y = some d := by
  rw [lookup_if] at h ⊢
  by_cases q : x = y
  · rw [if_pos q] at h ⊢; exact h
  · rw [if_neg q] at h ⊢; exact (lookup_filter (f := fun n => !sq n x) h).2
theorem fm_sub {h : Heap} {ρ : Rg} (s : ∀ y d, m'.lookup y = some d → m.lookup y = some d) (F : Fm C env m h ρ) : Fm C env m' h ρ :=
  ⟨F.fn, F.gl, F.bu, F.ns.imp fun ml z => ⟨z.1, fun x d e => z.2 x d (s x d e)⟩, fun x d e => F.cl x d (s x d e), F.cs, F.ap, F.offL, F.offC, fun x d e => F.db x d (s x d e)⟩
theorem wa_sub_m {t : Expr} {d : V} {Q : M → List Cell → Prop} (x : WA C H env t d m σ fun m1 σ1 => ∃ m2, (∀ y d, m2.lookup y = some d → m1.lookup y = some d) ∧ Q m2 σ1) : WA C H env t d m σ Q := fun A s ρ v P R =>
  mono (x A s ρ v P R) fun _ s' z => by
    obtain ⟨fl, m', h', tk, ρ', σ', e, g, S, F, f, m2, l, q⟩ := z
    exact ⟨fl, m2, h', tk, ρ', σ', e, g, S, fm_sub l F, f, q⟩
theorem wal_sub {W : List Addr} {t : Expr} {d : V} {Q : M → Prop} (x : WAl C H env W t d m σ fun m1 => ∃ m2, (∀ y d, m2.lookup y = some d → m1.lookup y = some d) ∧ Q m2) : WAl C H env W t d m σ Q := fun A s ρ v P R =>
  mono (x A s ρ v P R) fun _ s' z => by
    obtain ⟨m', h', tk, e, g, F, m2, l, q⟩ := z
    exact ⟨m2, h', tk, e, g, fm_sub l F, q⟩
theorem foldT_len {f : Expr → V → M → Option M} : ∀ {ts : List Expr} {ds : List V} {m m' : M}, foldT f ts ds m = some m' → ts.length = ds.length
  | [], ds, _, _, h => by rw [List.isEmpty_iff.mp (cnd_ok h).1]; rfl
  | t :: ts, [], _, _, h => none_ne h
  | t :: ts, d :: ds, m, m', h => by
    obtain ⟨m₁, _, h⟩ := Option.bind_eq_some_iff.mp h
    exact congrArg (· + 1) (foldT_len h)
theorem tgt_ind {G : Expr → V → M → M → Prop} {GL : List Expr → List V → M → M → Prop} (one : ∀ x p d m, stoOk nk x = true → G (.Name x p) d m ((x, d) :: rm x m)) (tup : ∀ ts i p ds m m', noStar ts = true → ts.length = ds.length → GL ts ds m m' → G (.Tuple ts i p) (.tup ds) m m') (nil : ∀ m, GL [] [] m m) (cons : ∀ t ts d ds m m₁ m', G t d m m₁ → GL ts ds m₁ m' → GL (t :: ts) (d :: ds) m m') :
    ∀ (k : Nat) (t : Expr) (d : V) (m m' : M), tgtK nk k t d m = some m' → G t d m m' := by
  have h1 : ∀ (t : Expr) (d : V) (m m' : M), tgt1 nk t d m = some m' → G t d m m' := fun t d m m' h => by
    obtain ⟨x, ex, h⟩ := Option.bind_eq_some_iff.mp h
    obtain ⟨so, h1⟩ := cnd_ok h
    obtain ⟨p, rfl⟩ := nmA_ok ex
    exact Option.some.inj h1 ▸ one _ _ _ _ so
  have hl : ∀ (f : Expr → V → M → Option M), (∀ t d m m', f t d m = some m' → G t d m m') → ∀ (ts : List Expr) (ds : List V) (m m' : M), foldT f ts ds m = some m' → GL ts ds m m' := fun f hf ts => by
    induction ts with
    | nil =>
      intro ds m m' h
      obtain ⟨e, h⟩ := cnd_ok h
      obtain rfl := List.isEmpty_iff.mp e
      exact Option.some.inj h ▸ nil m
    | cons t ts ih =>
      intro ds m m' h
      cases ds with
      | nil => exact none_ne h
      | cons d ds =>
        obtain ⟨m₁, e, h⟩ := Option.bind_eq_some_iff.mp h
        exact cons _ _ _ _ _ _ _ (hf _ _ _ _ e) (ih _ _ _ h)
  intro k
  induction k with
  | zero => exact h1
  | succ k ih =>
    intro t d m m' h
    have h : tgtS nk (tgtK nk k) t d m = some m' := h
    unfold tgtS at h
    cases et : tupA t with
    | some ts =>
      rw [et] at h
      obtain ⟨i, p, rfl⟩ := tupA_ok et
      obtain ⟨ds, e, h⟩ := Option.bind_eq_some_iff.mp h
      obtain ⟨ns, h⟩ := cnd_ok h
      exact asT_ok e ▸ tup _ _ _ _ _ _ ns (foldT_len h) (hl _ ih _ _ _ _ h)
    | none => rw [et] at h; exact h1 _ _ _ _ h
theorem tgt_wal {W : List Addr} (CE : CompE nk env W) (k : Nat) (t : Expr) (d : V) (m m' : M) (h : tgtK nk k t d m = some m') (Q : M → Prop) (q : Q m') : WAl C H env W t d m σ Q :=
  tgt_ind (G := fun t d m m' => ∀ Q : M → Prop, Q m' → WAl C H env W t d m σ Q) (GL := fun ts ds m m' => ∀ Q : M → Prop, Q m' → WALs C H env W σ Q ts ds m)
    (fun x p d m so Q q => wal_sub (wal_name (CE.own _ (stoOk_iff.mp so).1 (stoOk_iff.mp so).2) ⟨_, rm_cons, q⟩)) (fun ts i p ds m m' ns l g Q q => wal_tuple CE.ownW l (asg_eq ns) (g Q q)) (fun m Q q => q) (fun t ts d ds m m₁ m' g gl Q q => g _ (gl Q q)) k t d m m' h Q q
theorem tgt_wa (K : Knows nk env) (k : Nat) (t : Expr) (d : V) (m m' : M) (h : tgtK nk k t d m = some m') (Q : M → List Cell → Prop) (q : Q m' σ) : WA C H env t d m σ Q :=
  tgt_ind (G := fun t d m m' => ∀ Q : M → List Cell → Prop, Q m' σ → WA C H env t d m σ Q) (GL := fun ts ds m m' => ∀ Q : M → List Cell → Prop, Q m' σ → WAs C H env Q ts ds m σ)
    (fun x p d m so Q q => wa_sub_m (wa_name (sto_of K so) ⟨_, rm_cons, q⟩)) (fun ts i p ds m m' ns l g Q q => wa_tuple l (asg_eq ns) (g Q q)) (fun m Q q => q) (fun t ts d ds m m₁ m' g gl Q q => g _ (gl Q q)) k t d m m' h Q q
theorem lock_holds {d : V} {xs : List V} (h : getL σ d = some xs) (σ₂ : List Cell) (k : Keep (lockOf d) σ σ₂) : Holds σ₂ d xs := by
  cases d with
  | loc n => exact k _ (.head _) _ (lcell_ok h)
  | tup l => exact Option.some.inj h
  | lst l => exact Option.some.inj h
  | _ => exact none_ne h
theorem comp_sc {sc : Scope} (K : Knows nk env) (h : compOk nk sc = true) : CompSc env sc := by
  obtain ⟨h1, h⟩ := Bool.and_eq_true_iff.mp h
  obtain ⟨h2, h3⟩ := Bool.and_eq_true_iff.mp h
  refine ⟨beq_iff_eq.mp h1, ndF_ok h2, fun x hx e => ?_⟩
  have z := List.all_eq_true.mp h3 x hx
  rw [e, lkp_eq] at z
  rcases Bool.or_eq_true_iff.mp ((Bool.or_eq_true_iff.mp z).resolve_left (by decide)) with z | z
  · obtain ⟨a, b⟩ := K.cel _ (beq_iff_eq.mp z)
    exact ⟨.inl a, b⟩
  · exact K.fre _ (beq_iff_eq.mp z)
theorem inner_lookup {sc : Scope} {x : Str} {d : V} (h : (inner sc m).lookup x = some d) : m.lookup x = some d ∧ sc.names.lookup x = some .free := by
  obtain ⟨a, b⟩ := lookup_filter (f := fun n => lkp sc.names n == some .free) h
  rw [lkp_eq] at a
  exact ⟨b, beq_iff_eq.mp a⟩
end
theorem chk_ok {b : Bool} {P : Prop} (h : chk b P) : b = true ∧ P := by
  cases b with
  | false => exact h.elim
  | true => exact ⟨rfl, h⟩
theorem cnd_or {b : Bool} {P P' : Prop} (h : cnd b P P') : (b = true ∧ P) ∨ (b = false ∧ P') := by
  cases b with
  | false => exact .inr ⟨rfl, h⟩
  | true => exact .inl ⟨rfl, h⟩
theorem cnd_t {P P' : Prop} (h : cnd true P P') : P := h
inductive Asked {α : Type} (x : Option α) (k : Qu → α → Prop) : Prop
  | mk (v : α) (q : Qu) (e : x = some v) (h : k q v)
theorem opt_ok {α : Type} {x : Option α} {k : α → Prop} (h : opt x k) : Asked x fun _ => k := by
  cases x with
  | none => exact h.elim
  | some v => exact ⟨v, [], rfl, h⟩
theorem alt_or {α : Type} {x : Option α} {k : α → Prop} {no : Prop} (h : alt x k no) : (∃ v, x = some v ∧ k v) ∨ (x = none ∧ no) := by
  cases x with
  | none => exact .inr ⟨rfl, h⟩
  | some v => exact .inl ⟨v, rfl, h⟩
theorem hdq_or {α : Type} {pk : An → Option α} {q : Qu} {yes : Qu → α → Prop} {no : Prop} (h : hdq pk q yes no) : (∃ q' v, yes q' v) ∨ no := by
  cases q with
  | nil => exact .inr h
  | cons a q =>
    unfold hdq at h
    dsimp only at h
    cases e : pk a with
    | none => rw [e] at h; exact .inr h
    | some v => rw [e] at h; exact .inl ⟨_, _, h⟩
theorem ask_ok {α : Type} {pk : An → Option α} {q : Qu} {x : Option α} {k : Qu → α → Prop} (h : ask pk q x k) : Asked x k := (hdq_or h).elim (fun ⟨_, _, e, h⟩ => ⟨_, _, e, h⟩) fun h => by
  obtain ⟨v, _, e, h⟩ := opt_ok h
  exact ⟨v, q, e, h⟩
theorem qs_ok {x : Bool} {q : Qu} {P : Qu → Prop} (h : qs x q P) : ∃ q, P q := by
  cases x with
  | true => exact h
  | false => exact ⟨q, h⟩
theorem loopC_ok {i : Nat} {G : Bool → Qu → KT → Prop} {q : Qu} {σ : List Cell} {k : Qu → List V → List Cell → Prop} (h : loopC i G q σ k) : ∃ x q kk, G x q kk ∧ ∀ q m acc σ', kk q m acc σ' → ∃ q', k q' acc σ' :=
  (hdq_or h).elim (fun ⟨_, _, g, h⟩ => ⟨true, _, _, g, fun _ _ _ _ e => ⟨_, e.1 ▸ e.2 ▸ h⟩⟩) fun g => ⟨false, _, _, g, fun _ _ _ _ h => ⟨_, h⟩⟩
theorem forC_ok {i : Nat} {G : Bool → Qu → KX → Prop} {q : Qu} {k : KX} (h : forC i G q k) : ∃ x q kk, G x q kk ∧ ∀ q f m σ', kk q f m σ' → ∃ q', k q' f m σ' :=
  (hdq_or h).elim (fun ⟨_, _, g, h⟩ => ⟨true, _, _, g, fun _ _ _ _ e => ⟨_, e.1 ▸ e.2.1 ▸ e.2.2 ▸ h⟩⟩) fun g => ⟨false, _, _, g, fun _ _ _ _ h => ⟨_, h⟩⟩
abbrev Lead {α : Type} (lk : List Nat) (σ0 : List Cell) (k : Qu → α → List Cell → Prop) (Q : α → List Cell → Prop) : Prop := ∀ q d σ', Keep lk σ0 σ' → k q d σ' → Q d σ'
abbrev Lead2 {α β : Type} (lk : List Nat) (σ0 : List Cell) (k : Qu → α → β → List Cell → Prop) (Q : α → β → List Cell → Prop) : Prop := ∀ q d e σ', Keep lk σ0 σ' → k q d e σ' → Q d e σ'
structure In (n H : Nat) (nk : Nk) (env : Env) : Prop where
  l : 2 * n ≤ H
  K : Knows nk env
structure Snd (C : Cx) (T : Tab) (n : Nat) (r : Ev) : Prop where
  TO : TabOk C T
  e : ∀ {H lk env nk x q m σ σ0 k Q}, In n H nk env → Keep lk σ0 σ → r.e lk nk x q m σ k → Lead lk σ0 k Q → WL C H env x m σ Q
  l : ∀ {H lk env nk x q m σ σ0 k Q}, In n H nk env → Keep lk σ0 σ → r.l lk nk x q m σ k → Lead lk σ0 k Q → WLs C H env x m σ Q
  b : ∀ {H lk env nk x q m σ σ0 k Q}, In n H nk env → Keep lk σ0 σ → r.b lk nk x q m σ k → Lead lk σ0 k Q → WB C H env x m σ Q
  x : ∀ {H lk env nk x q m σ σ0 k Q}, In n H nk env → env.scope.names = nk → Keep lk σ0 σ → r.x lk nk x q m σ k → Lead2 lk σ0 k Q → WX C H env x m σ Q
theorem Keep.l {a b : List Nat} {σ σ' : List Cell} (k : Keep (a ++ b) σ σ') : Keep a σ σ' := k.sub fun _ m => List.mem_append_left _ m
theorem Keep.r {a b : List Nat} {σ σ' : List Cell} (k : Keep (a ++ b) σ σ') : Keep b σ σ' := k.sub fun _ m => List.mem_append_right _ m
theorem itCall_ok {e : Expr} {x : Str} {a : Expr} (h : itCall e = some (x, a)) : ∃ fp pos, e = .Call (.Name x fp) [a] [] pos := by
  obtain ⟨c, e1, h⟩ := Option.bind_eq_some_iff.mp h
  obtain ⟨e2, h⟩ := cnd_ok h
  obtain ⟨x, e3, h⟩ := Option.bind_eq_some_iff.mp h
  obtain ⟨a, e4, h⟩ := Option.map_eq_some_iff.mp h
  obtain ⟨rfl, rfl⟩ := Prod.mk.inj h
  obtain ⟨fp, e3⟩ := nmA_ok e3
  rw [callA_ok e1, e3, hd1_ok e4, List.isEmpty_iff.mp e2]
  exact ⟨_, _, rfl⟩
section
variable {C : Cx} {T : Tab} {n H : Nat} {r : Ev} {env : Env} {nk : Nk} {m m' : M} {σ0 σ σ' : List Cell} {lk : List Nat}
theorem ifs_ev (S : Snd C T n r) (i : In n H nk env) {Q : Bool → List Cell → Prop} {cs : List Expr} : ∀ {q : Qu} {σ : List Cell} {k : Qu → Bool → List Cell → Prop}, Keep lk σ0 σ → evIfs r lk nk cs q m σ k → Lead lk σ0 k Q → Ifs C H env cs m σ Q := by
  induction cs with
  | nil => exact fun k0 h f => f _ _ _ k0 h
  | cons c cs ih =>
    exact fun k0 h f => S.b i k0 h fun q b σ' k1 h => by
      cases b with
      | false => exact f _ _ _ k1 h
      | true => exact ih k1 h f
theorem turns_ev (S : Snd C T n r) (l : 2 * n ≤ H) {W : List Addr} (CE : CompE nk env W) {elt tgt : Expr} {ifs : List Expr} {Sσ : List Cell → Prop} (hS : ∀ σ, Keep lk σ0 σ → Sσ σ) {kk : Kt} {x : Bool} {xs : List V} : ∀ {q : Qu} {m : M} {σ : List Cell} {acc : List V} {k : KT}, Keep lk σ0 σ → evTurns r lk nk x elt tgt ifs xs q m σ acc k → Lead2 lk σ0 k (fun m acc σ => kk m σ acc) → CLoop C H env W tgt ifs (emit C H elt env W) Sσ xs m σ acc kk := by
  induction xs with
  | nil => exact fun k0 h f => ⟨hS _ k0, f _ _ _ _ k0 h⟩
  | cons y xs ih =>
    intro q m σ acc k k0 h f
    obtain ⟨m₁, _, h1, h⟩ := opt_ok h
    obtain ⟨q, h⟩ := qs_ok h
    refine ⟨hS _ k0, tgt_wal CE 2 tgt y m m₁ h1 _ (ifs_ev S ⟨l, CE.knows⟩ k0 h fun q b σ' k1 h => ?_)⟩
    cases b with
    | false => exact ih k1 (chk_ok h).2 f
    | true => exact S.e ⟨l, CE.knows⟩ k1 h fun q d σ' k2 h => ⟨Nat.le_of_ble_eq_true (chk_ok h).1, ih k2 (chk_ok h).2 f⟩
theorem it_ev (S : Snd C T n r) (i : In n H nk env) {iter tgt : Expr} {q : Qu} {k : Qu → List V → List Nat → List Cell → Prop} {Q : List V → (List Cell → Prop) → List Cell → Prop} (k0 : Keep lk σ0 σ) (hi : evIt r lk nk iter tgt q m σ k) (f : ∀ q xs lks σ' (Sσ : List Cell → Prop), Keep lk σ0 σ' → k q xs lks σ' → (∀ σ, Keep lks σ' σ → Sσ σ) → Q xs Sσ σ') : isSet iter = false ∧ WI C H env iter tgt m σ Q := by
  have dflt : (r.e lk nk iter q m σ fun q d σ => ask (An.pl (key iter.pos)) q (getL σ d) fun q xs => k q xs (lockOf d) σ) → WI C H env iter tgt m σ Q := fun h => wi_seq (S.e i k0 h fun q d σ' k1 h => by
    obtain ⟨xs, q', e, h⟩ := ask_ok h
    exact ⟨xs, holds_of e, f _ _ _ _ _ k1 h (lock_holds e)⟩)
  rcases alt_or hi with ⟨⟨x, e⟩, ei, h⟩ | ⟨ei, h⟩
  · obtain ⟨fp, pos, rfl⟩ := itCall_ok ei
    obtain ⟨g, h⟩ := chk_ok h
    have g := Bool.and_eq_true_iff.mp g
    have st : noStar [e] = true := Bool.and_eq_true_iff.mpr ⟨g.2, rfl⟩
    refine ⟨rfl, ?_⟩
    rcases cnd_or h with ⟨ex, h⟩ | ⟨_, h⟩
    · obtain rfl := sq_iff.mp ex
      refine wi_range (glob_out i.K g.1) S.TO.bui.range (star_any st) (S.l i k0 h fun q ds σ' k1 h => ?_)
      obtain ⟨xs, q', e, h⟩ := ask_ok h
      obtain ⟨d, e1, e⟩ := Option.bind_eq_some_iff.mp e
      obtain ⟨j, e2, e⟩ := Option.bind_eq_some_iff.mp e
      obtain ⟨N, e3, e⟩ := Option.bind_eq_some_iff.mp e
      obtain ⟨l, rfl⟩ := grd_ok e
      cases j with
      | ofNat j =>
        obtain rfl := Option.some.inj e3
        exact ⟨j, by rw [hd1_ok e1, asI_ok e2]; rfl, Nat.le_of_ble_eq_true l, f _ _ _ _ _ k1 h fun _ _ => trivial⟩
      | negSucc _ => exact none_ne e3
    · rcases cnd_or h with ⟨ex, h⟩ | ⟨_, h⟩
      · obtain rfl := sq_iff.mp ex
        obtain ⟨ht, h⟩ := chk_ok h
        obtain ⟨ts, ht⟩ := Option.isSome_iff_exists.mp ht
        obtain ⟨j, tp, rfl⟩ := tupA_ok ht
        refine wi_enum (glob_out i.K g.1) S.TO.bui.enumerate (star_any st) (S.l i k0 h fun q ds σ' k1 h => ?_)
        obtain ⟨xs, q', e, h⟩ := ask_ok h
        obtain ⟨d, e1, e⟩ := Option.bind_eq_some_iff.mp e
        obtain ⟨t, e⟩ := cnd_no e
        obtain ⟨ys, e2, rfl⟩ := Option.map_eq_some_iff.mp e
        rw [hd1_ok e1] at h ⊢
        exact ⟨d, ys, rfl, holds_of e2, t, f _ _ _ _ _ k1 h (lock_holds e2)⟩
      · exact dflt h
  · obtain ⟨g, h⟩ := chk_ok h
    exact ⟨(Bool.not_eq_true' _).mp g, dflt h⟩
theorem nest_ev (S : Snd C T n r) (l : 2 * n ≤ H) {W : List Addr} (CE : CompE nk env W) {elt tgt tgt2 iter2 : Expr} {ifs ifs2 : List Expr} {Sσ : List Cell → Prop} (hS : ∀ σ, Keep lk σ0 σ → Sσ σ) {kk : Kt} {x : Bool} {xs : List V} : ∀ {q : Qu} {m : M} {σ : List Cell} {acc : List V} {k : KT}, Keep lk σ0 σ → evNest r lk nk x elt tgt tgt2 iter2 ifs ifs2 xs q m σ acc k → Lead2 lk σ0 k (fun m acc σ => kk m σ acc) → CLoop C H env W tgt ifs (nest C H tgt2 iter2 ifs2 (emit C H elt) env W) Sσ xs m σ acc kk := by
  induction xs with
  | nil => exact fun k0 h f => ⟨hS _ k0, f _ _ _ _ k0 h⟩
  | cons y xs ih =>
    intro q m σ acc k k0 h f
    obtain ⟨m₁, _, h1, h⟩ := opt_ok h
    obtain ⟨q, h⟩ := qs_ok h
    refine ⟨hS _ k0, tgt_wal CE 2 tgt y m m₁ h1 _ (ifs_ev S ⟨l, CE.knows⟩ k0 h fun q b σ' k1 h => ?_)⟩
    cases b with
    | false => exact ih k1 h f
    | true => exact (it_ev S ⟨l, CE.knows⟩ k1 (cnd_t h) fun q ys lks σ₂ S2 k2 h hS2 => turns_ev (σ0 := σ₂) S l CE (fun σ₃ k3 => hS2 _ k3.l) .refl h fun q m acc σ₃ k3 h => ih (k2.trans k3.r) h f).2
abbrev CompQ (C : Cx) (H : Nat) (env : Env) (sc : Scope) (iter tgt : Expr) (ifs : List Expr) (inn : Env → List Addr → M → List Cell → List V → Kt → Prop) (m : M) (σ : List Cell) (Q : List V → List Cell → Prop) : Prop :=
  CompSc env sc ∧ isSet iter = false ∧ WI C H env iter tgt m σ fun xs Sσ σ₁ => ∀ cenv W, CompE sc.names cenv W → CLoop C H cenv W tgt ifs (inn cenv W) Sσ xs (inner sc m) σ₁ [] (fun _ σ₂ acc => Q acc σ₂)
theorem comp_ev (S : Snd C T n r) (i : In n H nk env) {p : Nat} {elt tgt iter : Expr} {ifs : List Expr} {sc : Scope} {q : Qu} {k : Qu → List V → List Cell → Prop} {Q : List V → List Cell → Prop} (k0 : Keep lk σ0 σ) (h : evComp r lk nk p elt tgt iter ifs sc q m σ k) (f : Lead lk σ0 k Q) : CompQ C H env sc iter tgt ifs (emit C H elt) m σ Q := by
  obtain ⟨ok, h⟩ := chk_ok h
  exact ⟨comp_sc i.K ok, it_ev S i k0 h fun q xs lks σ₁ Sσ k1 h hS cenv W CE => by
    obtain ⟨x, q, kk, h, g⟩ := loopC_ok h
    exact turns_ev S i.l CE (fun _ k2 => hS _ k2.l) .refl h fun q m acc σ' k2 h => (g _ _ _ _ h).elim fun q h => f _ _ _ (k1.trans k2.r) h⟩
theorem comp2_ev (S : Snd C T n r) (i : In n H nk env) {p : Nat} {elt tgt iter tgt2 iter2 : Expr} {ifs ifs2 : List Expr} {sc : Scope} {q : Qu} {k : Qu → List V → List Cell → Prop} {Q : List V → List Cell → Prop} (k0 : Keep lk σ0 σ) (h : evComp2 r lk nk p elt tgt iter tgt2 iter2 ifs ifs2 sc q m σ k) (f : Lead lk σ0 k Q) : isSet iter2 = false ∧ CompQ C H env sc iter tgt ifs (fun cenv W => nest C H tgt2 iter2 ifs2 (emit C H elt) cenv W) m σ Q := by
  obtain ⟨ok, h⟩ := chk_ok h
  have ok := Bool.and_eq_true_iff.mp ok
  exact ⟨(Bool.not_eq_true' _).mp ok.2, comp_sc i.K ok.1, it_ev S i k0 h fun q xs lks σ₁ Sσ k1 h hS cenv W CE => by
    obtain ⟨x, q, kk, h, g⟩ := loopC_ok h
    exact nest_ev S i.l CE (fun _ k2 => hS _ k2.l) .refl h fun q m acc σ' k2 h => (g _ _ _ _ h).elim fun q h => f _ _ _ (k1.trans k2.r) h⟩
end
theorem keyS_ok {e : Option Expr} {k : Str × Nat × Pos} (h : keyS e = some k) : e = some (.Constant (.str k.1) k.2.1 k.2.2) := by
  obtain ⟨e', e0, h⟩ := Option.bind_eq_some_iff.mp h
  obtain ⟨c, e1, h⟩ := Option.bind_eq_some_iff.mp h
  obtain ⟨x, e2, rfl⟩ := Option.map_eq_some_iff.mp h
  rw [e0, constA_ok e1, strA_ok e2]
theorem keys_of {ks : List (Option Expr)} {kk : List (Str × Nat × Pos)} (h : evKeys ks = some kk) : ks = kk.map fun k => some (.Constant (.str k.1) k.2.1 k.2.2) := list_of (f := keyS) keyS_ok rfl (fun _ _ => rfl) h
theorem cat_ok {acc x y : Str} {d : V} (h : catS acc x = some d) (e : asS d = some y) : (acc ++ x).length ≤ 10000 ∧ acc ++ x = y := by
  obtain ⟨b, rfl⟩ := grd_ok h
  exact ⟨Nat.le_of_ble_eq_true b, Option.some.inj e⟩
theorem fmt_ok {acc y : Str} {d d' : V} (h : fmtS acc d = some d') (e : asS d' = some y) : ∃ x, Shw d x ∧ (acc ++ x).length ≤ 10000 ∧ acc ++ x = y := by
  cases d with
  | str x => exact ⟨x, .str x, cat_ok h e⟩
  | int i =>
    obtain ⟨j, e1, h⟩ := Option.bind_eq_some_iff.mp h
    obtain ⟨b, h⟩ := cnd_ok h
    have b := Bool.and_eq_true_iff.mp b
    cases i with
    | ofNat i =>
      obtain rfl := Option.some.inj e1
      exact ⟨_, .int i (Nat.le_of_ble_eq_true b.1) b.2, cat_ok h e⟩
    | negSucc _ => exact none_ne e1
  | _ => exact none_ne h
theorem knows_of {sc : Scope} {env : Env} (E : EnvFor sc env) (fn : sc.kind = .function) (nf : ∀ x, sc.names.lookup x ≠ some .free) : Knows sc.names env := by
  have k : ∀ x, env.kindOf x = sc.names.lookup x := fun x => congrArg (fun s : Scope => s.names.lookup x) E.sc
  exact ⟨(congrArg Scope.kind E.sc).trans fn, fun x e => (k x).symm.trans e, fun x e => (k x).trans e, fun x e => ⟨(k x).trans e, E.cells x e⟩, fun x e => absurd e (nf x), fun x e => (k x).trans e⟩
inductive Ended (σ : List Cell) (Q : V → List Cell → Prop) (d : V) (σ' : List Cell) : Prop
  | mk (d0 : V) (σ0 : List Cell) (len : σ0.length = σ.length) (cl : ∀ (j : Nat) (c : Cell), σ0[j]? = some c → σ'[j]? = some c ∧ (σ[j]? = some c ∨ plC σ.length c)) (fr : frd σ' σ.length 9 d = some d0) (q : Q d0 σ0)
def LowC (n : Nat) : Cell → Prop
  | .list ds => ∀ d ∈ ds, Low n d
  | .dict ds => ∀ d ∈ ds, Low n d.2
  | .seen _ => True
theorem plC_low {n : Nat} {c : Cell} (h : plC n c) : LowC n c := by
  cases c with
  | dict ds => exact plks_below h
  | list ds => exact h.elim
  | seen ks => exact trivial
section
variable {C : Cx} {h : Heap} {l t f : List Addr} {a : Addr} {c : Cell} {ρ : Rg}
theorem CellAt.low (x : CellAt C h ρ a c) : LowC ρ.l.length c := by
  cases c with
  | list ds => exact x.elim fun _ x => x.elim fun _ x => x.2.low
  | dict ds => exact x.elim fun _ x => x.elim fun _ x => x.2.2.low
  | seen ks => exact trivial
theorem CellAt.cut (x : CellAt C h ⟨l ++ t, f⟩ a c) (y : LowC l.length c) : CellAt C h ⟨l, f⟩ a c := by
  cases c with
  | list ds => exact x.imp fun _ x => x.imp fun _ x => ⟨x.1, x.2.cut y⟩
  | dict ds => exact x.imp fun _ x => x.imp fun _ x => ⟨x.1, x.2.1, x.2.2.cut y⟩
  | seen ks => exact x.imp fun _ x => ⟨x.1, x.2.1, fun z m => ⟨⟨notMem_low (x.2.2 z m).1.1, (x.2.2 z m).1.2⟩, (x.2.2 z m).2⟩⟩
end
section
variable {C : Cx} {T : Tab} {n H : Nat} {r : Ev} {env : Env} {nk : Nk} {m m' : M} {σ0 σ σ' : List Cell} {lk : List Nat}
theorem for_ev (S : Snd C T n r) (i : In n H nk env) (nm : env.scope.names = nk) {tgt : Expr} {body : List Stmt} {Sσ : List Cell → Prop} (hS : ∀ σ, Keep lk σ0 σ → Sσ σ) {Q : Fl → M → List Cell → Prop} {x : Bool} {xs : List V} : ∀ {q : Qu} {m : M} {σ : List Cell} {k : KX}, Keep lk σ0 σ → evFor r lk nk x tgt body xs q m σ k → Lead2 lk σ0 k Q → LoopP C H env tgt body Sσ Q xs m σ := by
  induction xs with
  | nil => exact fun k0 h f => ⟨hS _ k0, f _ _ _ _ k0 h⟩
  | cons y xs ih =>
    intro q m σ k k0 h f
    obtain ⟨m₁, _, h1, h⟩ := opt_ok h
    obtain ⟨q, h⟩ := qs_ok h
    refine ⟨hS _ k0, tgt_wa i.K 2 tgt y m m₁ h1 _ (S.x i nm k0 h fun q fl m' σ' k1 h => ?_)⟩
    cases fl with
    | next => exact ih k1 h f
    | cont => exact ih k1 h f
    | _ => exact f _ _ _ _ k1 h
theorem while_ev (S : Snd C T n r) (i : In n H nk env) (nm : env.scope.names = nk) {test : Expr} {body : List Stmt} {Q : Fl → M → List Cell → Prop} {j : Nat} : ∀ {q : Qu} {m : M} {σ : List Cell} {k : KX}, Keep lk σ0 σ → evWhile r lk nk test body j q m σ k → Lead2 lk σ0 k Q → WhileP C H env test body Q j m σ := by
  induction j with
  | zero => exact fun _ h _ => h.elim
  | succ j ih =>
    exact fun k0 h f => S.b i k0 h fun q b σ' k1 h => by
      cases b with
      | false => exact f _ _ _ _ k1 h
      | true =>
        refine S.x i nm k1 h fun q fl m' σ' k2 h => ?_
        cases fl with
        | next => exact ih k2 h f
        | cont => exact ih k2 h f
        | _ => exact f _ _ _ _ k2 h
theorem boolv_ev (S : Snd C T n r) (i : In n H nk env) {op : BoolOp} {Q : Bool → List Cell → Prop} {es : List Expr} : ∀ {e : Expr} {q : Qu} {σ : List Cell} {k : Qu → Bool → List Cell → Prop}, Keep lk σ0 σ → evBoolV r lk nk op es e q m σ k → Lead lk σ0 k Q → WLb C H env op (e :: es) m σ Q := by
  induction es with
  | nil =>
    exact fun k0 h f => wlb_one (S.e i k0 h fun q d σ' k1 h => by
      obtain ⟨b, q', e, h⟩ := ask_ok h
      exact ⟨b, asB_ok e, f _ _ _ k1 h⟩)
  | cons e' es ih =>
    intro e q σ k k0 h f
    cases op with
    | And =>
      refine wlb_and (S.e i k0 h fun q d σ' k1 h => ?_)
      obtain ⟨b, q', e, h⟩ := ask_ok h
      refine ⟨b, asB_ok e, ?_⟩
      cases b with
      | false => exact f _ _ _ k1 h
      | true => exact ih k1 h f
    | Or =>
      refine wlb_or (S.e i k0 h fun q d σ' k1 h => ?_)
      obtain ⟨b, q', e, h⟩ := ask_ok h
      refine ⟨b, asB_ok e, ?_⟩
      cases b with
      | false => exact ih k1 h f
      | true => exact f _ _ _ k1 h
theorem all_ev (S : Snd C T n r) (i : In n H nk env) {op : BoolOp} {Q : Bool → List Cell → Prop} {es : List Expr} : ∀ {q : Qu} {σ : List Cell} {k : Qu → Bool → List Cell → Prop}, Keep lk σ0 σ → evAll r lk nk op es q m σ k → Lead lk σ0 k Q → WBs C H env op es m σ Q := by
  induction es with
  | nil =>
    intro q σ k k0 h f
    cases op with
    | And => exact wbs_and_nil (f _ _ _ k0 h)
    | Or => exact wbs_or_nil (f _ _ _ k0 h)
  | cons e es ih =>
    intro q σ k k0 h f
    cases op with
    | And =>
      refine wbs_and (S.b i k0 h fun q b σ' k1 h => ?_)
      cases b with
      | false => exact f _ _ _ k1 h
      | true => exact ih k1 h f
    | Or =>
      refine wbs_or (S.b i k0 h fun q b σ' k1 h => ?_)
      cases b with
      | false => exact ih k1 h f
      | true => exact f _ _ _ k1 h
theorem es_ev (S : Snd C T n r) (i : In n H nk env) {es : List Expr} : ∀ {ks : List (Str × Nat × Pos)} {q : Qu} {σ : List Cell} {k : Qu → List V → List Cell → Prop} {Q : List (Str × V) → List Cell → Prop}, ks.length = es.length → Keep lk σ0 σ → evEs r lk nk es q m σ k → Lead lk σ0 k (fun ds σ => Q ((ks.map (·.1)).zip ds) σ) → DP C H env ks es m σ Q := by
  induction es with
  | nil =>
    intro ks q σ k Q e0 k0 h f
    obtain rfl := List.eq_nil_of_length_eq_zero e0
    exact f _ _ _ k0 h
  | cons e es ih =>
    intro ks q σ k Q e0 k0 h f
    cases ks with
    | nil => exact nomatch e0
    | cons k ks => exact S.e i k0 h fun q d σ' k1 h => ih (Nat.succ.inj e0) k1 h fun q ds σ' k2 h => f q _ σ' k2 h
theorem fstr_ev (S : Snd C T n r) (i : In n H nk env) {Q : Str → List Cell → Prop} {es : List Expr} : ∀ {acc : Str} {q : Qu} {σ : List Cell} {k : Qu → Str → List Cell → Prop}, Keep lk σ0 σ → evFstr r lk nk es acc q m σ k → Lead lk σ0 k Q → FP C H env es acc m σ Q := by
  induction es with
  | nil => exact fun k0 h f => f _ _ _ k0 h
  | cons e es ih =>
    intro acc q σ k k0 h f
    rcases alt_or h with ⟨c, ec, h⟩ | ⟨_, h⟩
    · obtain ⟨x, _, ex, h⟩ := opt_ok h
      obtain ⟨g, h⟩ := chk_ok h
      obtain ⟨d, q', ed, h⟩ := ask_ok h
      obtain ⟨y, _, e2, h⟩ := opt_ok h
      obtain ⟨l2, rfl⟩ := cat_ok ed e2
      exact .inl ⟨x, _, _, by rw [constA_ok ec, strA_ok ex], (okF_eq x).symm.trans g, l2, ih k0 h f⟩
    · obtain ⟨c, _, ef, h⟩ := opt_ok h
      obtain ⟨g, h⟩ := chk_ok h
      have g := Bool.and_eq_true_iff.mp g
      refine .inr ⟨c.1, _, by rw [fmtA_ok ef, eq_of_beq g.1, Option.isNone_iff_eq_none.mp g.2], S.e i k0 h fun q d σ' k1 h => ?_⟩
      obtain ⟨d2, q', e, h⟩ := ask_ok h
      obtain ⟨y, _, e2, h⟩ := opt_ok h
      obtain ⟨x, s, l2, rfl⟩ := fmt_ok e e2
      exact ⟨x, s, l2, ih k1 h f⟩
theorem part_ev (S : Snd C T n r) (i : In n H nk env) {e : Option Expr} {q : Qu} {k : Qu → Option Int → List Cell → Prop} {Q : Option Int → List Cell → Prop} (k0 : Keep lk σ0 σ) (h : evPart r lk nk e q m σ k) (f : Lead lk σ0 k Q) : PartP C H env e m σ Q := by
  cases e with
  | none => exact f _ _ _ k0 h
  | some e =>
    refine S.e i k0 h fun q d σ' k1 h => ?_
    obtain ⟨i, _, e, h⟩ := opt_ok h
    exact ⟨i, asI_ok e, f _ _ _ k1 h⟩
theorem slc_of {lo hi : Option Int} {o d : V} (h : slcR σ lo hi o = some d) : slcV σ lo hi o d := by
  obtain ⟨xs, hx, l, e⟩ := lt_ok h
  exact ⟨xs, holds_of hx, l, e.symm⟩
theorem run_sc (S : Snd C T n r) {F : FnT} (FO : FnOk C F) {q : Qu} {ds : List V} {k : KV} {Q : V → List Cell → Prop} (h : evRun r lk F q ds σ k) (f : Lead lk σ k Q) : SC C (2 * n + 1) F.addr ds σ Q := by
  obtain ⟨hl, h⟩ := chk_ok h
  obtain ⟨fd, FI⟩ := FO.is
  refine sc_intro FI (Nat.eq_of_beq_eq_true hl) fun env E => S.x ⟨Nat.le_refl _, knows_of E FI.fn FO.nf⟩ (congrArg Scope.names E.sc) .refl h fun q fl m σ' k1 h => ?_
  cases fl with
  | next => exact f _ _ _ k1 h
  | ret d => exact f _ _ _ k1 h
  | _ => exact h.elim
theorem sc_end {a : Addr} {ds : List V} {Q : V → List Cell → Prop} {N : Nat} (x : SC C N a ds σ (Ended σ Q)) : SC C N a ds σ Q := x.map fun {A s ρ v s'} P g => by
  obtain ⟨d, h', tk, ρ', σ', e, g, S, Rd, d0, σ0, h0, hc, hf, q0⟩ := g
  obtain ⟨t, q⟩ := g.pre
  have fr := g.fr
  obtain ⟨l', f'⟩ := ρ'
  obtain ⟨l, f⟩ := ρ
  obtain rfl : l' = l ++ t := q
  obtain rfl : f' = f := fr
  have sl : l.length = σ.length := P.st.len
  rw [← sl] at hf
  have S' : St C h' ⟨l, f'⟩ σ0 := by
    refine ⟨sl.trans h0.symm, P.st.nd, fun n b c e1 e2 => ?_, S.base, fun b m => S.own b (m.imp (List.mem_append_left _) id), fun b m => S.dj b (List.mem_append_left _ m), fun b m => S.sy b (List.mem_append_left _ m)⟩
    obtain ⟨e3, e4⟩ := hc n c e2
    exact (S.cell n b c ((List.getElem?_append_left (List.getElem?_eq_some_iff.mp e1).1).trans e1) e3).cut (e4.elim (fun e4 => (P.st.cell n b c e1 e4).low) fun e4 => sl ▸ plC_low e4)
  exact ⟨d0, h', tk, ⟨l, f'⟩, σ0, e, ⟨⟨[], (List.append_nil _).symm⟩, rfl, fun b m n => absurd m n, g.kp⟩, S', frd_ok S 9 _ _ _ hf Rd, q0⟩
theorem semi_sc (S : Snd C T n r) {F : FnT} (FO : FnOk C F) {q : Qu} {ds : List V} {k : KV} {fo : Option Nat} {Q : V → List Cell → Prop} (h : evSemi r lk F q ds σ fo k) (f : Lead lk σ k Q) : SC C (2 * n + 1) F.addr ds σ Q := by
  obtain ⟨i, _, e, h⟩ := opt_ok h
  obtain ⟨z, h⟩ := chk_ok h
  refine sc_end (run_sc S FO h fun q d σ' k1 h => ?_)
  obtain ⟨kvs, q', e1, h⟩ := ask_ok h
  obtain ⟨pl, h⟩ := chk_ok h
  obtain ⟨d0, q', e2, h⟩ := ask_ok h
  refine ⟨d0, σ.set i (.dict kvs), List.length_set, fun j c e => ?_, e2, f _ _ _ (.set (memN_eq ((Bool.not_eq_true' _).mp z))) h⟩
  by_cases q : i = j
  · subst q
    have lt := (List.getElem?_eq_some_iff.mp e).1
    rw [List.getElem?_set_self (List.length_set ▸ lt)] at e
    exact Option.some.inj e ▸ ⟨dcell_ok e1, .inr pl⟩
  · rw [List.getElem?_set_ne q] at e
    exact ⟨k1 j (List.mem_filter.mpr ⟨List.mem_range.mpr (List.getElem?_eq_some_iff.mp e).1, bne_iff_ne.mpr fun z => q z.symm⟩) c e, .inl e⟩
theorem fn_ok (S : Snd C T n r) {F : FnT} (FO : FnOk C F) {q : Qu} {ds : List V} {k : KV} {Q : V → List Cell → Prop} (h : evFn r lk F q ds σ k) (f : Lead lk σ k Q) : SC C (2 * n + 1) F.addr ds σ Q := by
  rcases cnd_or h with ⟨_, h⟩ | ⟨_, h⟩
  · exact run_sc S FO h f
  rcases cnd_or h with ⟨_, h⟩ | ⟨_, h⟩
  · refine sc_end (run_sc S FO h fun q d σ' k1 h => ?_)
    obtain ⟨d0, q', e2, h⟩ := ask_ok h
    exact ⟨d0, σ, rfl, fun j c e => ⟨k1 j (List.mem_range.mpr (List.getElem?_eq_some_iff.mp e).1) c e, .inl e⟩, e2, f _ _ _ .refl h⟩
  · exact semi_sc S FO h f
theorem call_ev (S : Snd C T n r) {F : FnT} (FO : FnOk C F) {i : Nat} {q : Qu} {ds : List V} {k : KV} {Q : V → List Cell → Prop} (k0 : Keep lk σ0 σ) (h : callC C T n r lk i F q ds σ k) (f : Lead lk σ0 k Q) : SC C (2 * n + 1) F.addr ds σ Q := by
  have con : ∀ {K : Nat} {v : V} {σ' : List Cell}, K ≤ n → Con C T K F ds σ v σ' → Q v σ' → SC C (2 * n + 1) F.addr ds σ Q := fun b c q => ((c S.TO FO).map fun _ g => g.to q).up (Nat.succ_le_succ (Nat.mul_le_mul_left 2 b))
  rcases hdq_or h with ⟨q', a, h⟩ | h
  · obtain ⟨b, c, h⟩ := chk_ok h
    exact con (Nat.le_of_ble_eq_true b) c (f _ _ _ k0 h)
  rcases hdq_or h with ⟨q', a, h⟩ | h
  · obtain ⟨b, c, k1, h⟩ := chk_ok h
    exact con (Nat.le_of_ble_eq_true b) c (f _ _ _ (k0.trans k1) h)
  rcases hdq_or h with ⟨q', a, bc, h⟩ | h
  · exact con bc.1 bc.2 (f _ _ _ k0 h)
  · exact fn_ok S FO h fun q d σ' k1 h => f _ _ _ (k0.trans k1) h
end
theorem In.down {n H : Nat} {nk : Nk} {env : Env} (i : In (n + 1) H nk env) : In n H nk env := ⟨Nat.le_trans (Nat.le_add_right _ 2) i.l, i.K⟩
theorem attr_line {a b : Nat} (h : Nat.beq a b = true) : (a == b) = true := beq_iff_eq.mpr (Nat.eq_of_beq_eq_true h)
section
variable {C : Cx} {T : Tab} {n H : Nat} {r : Ev} {env : Env} {nk : Nk} {m m' : M} {σ0 σ σ' : List Cell} {lk : List Nat}
theorem BC.to {f : Value} {ds : List V} {d : V} {Q : V → List Cell → Prop} (x : BC C H f ds σ (Is d σ')) (q : Q d σ') : BC C H f ds σ Q := fun A s ρ vs P R => mono (x A s ρ vs P R) fun v s' z => z.to q
theorem cmp_ev (S : Snd C T n r) (i : In n H nk env) {p : Nat} {a : Expr} {ops : List CmpOp} {rs : List Expr} {q : Qu} {k : Qu → Bool → List Cell → Prop} {Q : Bool → List Cell → Prop} {P : List CmpOp → List Expr → Prop} (k0 : Keep lk σ0 σ) (h : eCmp r lk nk p a ops rs q m σ k) (f : Lead lk σ0 k Q)
    (g : ∀ op b, behindInMarks op b = false → (WL C H env a m σ fun x σ₁ => WL C H env b m σ₁ fun y σ₂ => Cop C H op x y σ₂ fun c => Q c σ₂) → P [op] [b]) : P ops rs := by
  obtain ⟨op, _, e1, h⟩ := opt_ok h
  obtain ⟨b, _, e2, h⟩ := opt_ok h
  obtain ⟨g1, h⟩ := chk_ok h
  rw [hd1_ok e1, hd1_ok e2]
  refine g op b ((Bool.not_eq_true' _).mp g1) (S.e i k0 h fun q x σ₁ k1 h => S.e i k1 h fun q y σ₂ k2 h A s ρ va vb P R R' => ?_)
  obtain ⟨c, q', e, h⟩ := ask_ok h
  exact mono (cop_ok e A s ρ va vb P R R') fun v s' ⟨b, tk, e1, e2, q⟩ => ⟨b, tk, e1, e2, q ▸ f _ _ _ k2 h⟩
theorem elim_or {α β : Type} {x : Option α} {n : Option β} {f : α → Option β} {y : β} (h : x.elim n f = some y) : (∃ v, x = some v ∧ f v = some y) ∨ n = some y := by
  cases x with
  | none => exact .inr h
  | some v => exact .inl ⟨v, rfl, h⟩
theorem spec_inv {P : Str → List Expr → Bool → Expr → Prop} {x : Str} {es : List Expr} {we : Bool × Expr} (h : specOf nk x es = some we) (p1 : ∀ e apos ip, isSup e = false → (apos.endLine == ip.line) = true → P "list" [.Call (.Attribute e "items" apos) [] [] ip] true e)
    (p2 : ∀ e sp ip, glob nk "set" = true → isStarred e = false → P "len" [.Call (.Name "set" sp) [e] [] ip] false e) : P x es we.1 we.2 := by
  obtain ⟨e0, e1, h⟩ := Option.bind_eq_some_iff.mp h
  obtain ⟨c, e2, h⟩ := Option.bind_eq_some_iff.mp h
  obtain ⟨e3, h⟩ := cnd_ok h
  rw [hd1_ok e1, callA_ok e2, List.isEmpty_iff.mp e3]
  rcases elim_or h with ⟨a, ea, h⟩ | h
  · obtain ⟨l, rfl⟩ := grd_ok h
    obtain ⟨l1, l⟩ := Bool.and_eq_true_iff.mp l
    obtain ⟨l2, l⟩ := Bool.and_eq_true_iff.mp l
    obtain ⟨l3, l⟩ := Bool.and_eq_true_iff.mp l
    obtain ⟨l4, l5⟩ := Bool.and_eq_true_iff.mp l
    rw [attrA_ok ea, List.isEmpty_iff.mp l1, sq_iff.mp l2, sq_iff.mp l3]
    exact p1 _ _ _ ((Bool.not_eq_true' _).mp l4) l5
  · obtain ⟨y, e4, h⟩ := Option.bind_eq_some_iff.mp h
    obtain ⟨e5, e6, h⟩ := Option.bind_eq_some_iff.mp h
    obtain ⟨l, rfl⟩ := grd_ok h
    obtain ⟨l1, l⟩ := Bool.and_eq_true_iff.mp l
    obtain ⟨l2, l⟩ := Bool.and_eq_true_iff.mp l
    obtain ⟨l3, l4⟩ := Bool.and_eq_true_iff.mp l
    obtain ⟨sp, e4⟩ := nmA_ok e4
    obtain rfl := sq_iff.mp l2
    rw [e4, hd1_ok e6, sq_iff.mp l1]
    exact p2 _ _ _ l3 ((Bool.not_eq_true' _).mp l4)
theorem spec_ev (S : Snd C T n r) (i : In n H nk env) {p : Nat} {x : Str} {es : List Expr} {fp pos : Pos} {we : Bool × Expr} {q : Qu} {k : KV} {Q : V → List Cell → Prop} (g : glob nk x = true) (hs : specOf nk x es = some we) (k0 : Keep lk σ0 σ) (h : r.e lk nk we.2 q m σ fun q d σ => ask (An.pv p) q (specV σ d we.1) fun q d => k q d σ) (f : Lead lk σ0 k Q) : WL C H env (.Call (.Name x fp) es [] pos) m σ Q :=
  spec_inv (P := fun x es w e => glob nk x = true → (r.e lk nk e q m σ fun q d σ => ask (An.pv p) q (specV σ d w) fun q d => k q d σ) → WL C H env (.Call (.Name x fp) es [] pos) m σ Q) hs
    (fun e apos ip l4 l5 g h => wl_listitems (glob_out i.K g) S.TO.bui.list (base_plain l4) l5 (star_cons rfl) (S.e i k0 h fun q d σ' k1 h => by
      obtain ⟨v, q', e, h⟩ := ask_ok h
      obtain ⟨kvs, e1, e⟩ := Option.bind_eq_some_iff.mp e
      obtain ⟨l, rfl⟩ := grd_ok e
      obtain ⟨l, l6⟩ := Bool.and_eq_true_iff.mp l
      exact ⟨kvs, holdsD_of e1, Nat.le_of_ble_eq_true l, (congrArg (kvs.all ·) (funext fun p => okF_eq p.1)).symm.trans l6, f _ _ _ k1 h⟩))
    (fun e sp ip l3 l4 g h => wl_lenset (glob_out i.K g) S.TO.bui.len (glob_out i.K l3) S.TO.bui.set (star_cons rfl) (star_cons l4) (S.e i k0 h fun q d σ' k1 h => by
      obtain ⟨v, q', e, h⟩ := ask_ok h
      obtain ⟨t, e⟩ := cnd_no e
      obtain ⟨xs, e1, e⟩ := Option.bind_eq_some_iff.mp e
      obtain ⟨ns, e2, e⟩ := Option.bind_eq_some_iff.mp e
      obtain ⟨l, rfl⟩ := grd_ok e
      exact ⟨ns, ints_of e2 ▸ holds_of e1, t, Nat.le_of_ble_eq_true l, f _ _ _ k1 h⟩)) g h
theorem look_of {F : FnT} (FO : FnOk C F) : ∃ oc od fd osl, C.K.lookup F.addr = some ⟨oc, od, .func fd, osl⟩ := FO.is.elim fun fd FI => FI.look.imp fun _ x => x.imp fun _ x => ⟨fd, x⟩
theorem calln_ev (S : Snd C T n r) (j : In (n + 1) H nk env) {p : Nat} {x : Str} {es : List Expr} {fp pos : Pos} {q : Qu} {k : KV} {Q : V → List Cell → Prop} (k0 : Keep lk σ0 σ) (h : eCallN C T n r lk nk p x es q m σ k) (f : Lead lk σ0 k Q) : WL C H env (.Call (.Name x fp) es [] pos) m σ Q := by
  have i := j.down
  obtain ⟨g, h⟩ := chk_ok h
  obtain ⟨g, gs⟩ := Bool.and_eq_true_iff.mp g
  have o := glob_out i.K g
  rcases alt_or h with ⟨we, hq, h⟩ | ⟨_, h⟩
  · exact spec_ev S i g hq k0 h f
  rcases alt_or h with ⟨F, hF, h⟩ | ⟨_, h⟩
  · obtain ⟨gF, oF⟩ := S.TO.fns _ _ ((lkp_eq _ _).symm.trans hF)
    exact wl_call o gF (look_of oF) (star_any gs) (S.l i k0 h fun q ds σ₁ k1 h => (call_ev S oF k1 h f).up (Nat.le_of_succ_le j.l))
  rcases alt_or h with ⟨KK, hK, h⟩ | ⟨_, h⟩
  · obtain ⟨ne, h⟩ := chk_ok h
    obtain ⟨gK, nK, oK⟩ := S.TO.cls _ _ ((lkp_eq _ _).symm.trans hK)
    cases es with
    | nil => exact ft ne
    | cons e es =>
      cases H with
      | zero => exact absurd j.l (Nat.not_succ_le_zero _)
      | succ H =>
        refine wl_new o gK nK (star_cons (no_cons gs).1) (star_any (no_cons gs).2) (S.l i k0 h fun q ds σ₁ k1 h => (call_ev S oK (k1.trans .snoc) h fun q d σ₂ k2 h => ?_).up (Nat.le_of_succ_le_succ j.l))
        obtain ⟨en, h⟩ := chk_ok h
        exact ⟨isN_ok en, f _ _ _ k2 h⟩
  · obtain ⟨b, _, hb, h⟩ := opt_ok h
    refine wl_bcall o (bn_ok S.TO.bui hb) (kp_b b) (star_any gs) (S.l i k0 h fun q ds σ₁ k1 h => ?_)
    obtain ⟨p, q', e, h⟩ := ask_ok h
    obtain ⟨k2, w⟩ := bui_ok (lk := lk) e
    exact w.to (f _ _ _ (k1.trans k2) h)
theorem meth_ev (S : Snd C T n r) (j : In (n + 1) H nk env) {p : Nat} {o : Expr} {name : Str} {apos pos : Pos} {es : List Expr} {q : Qu} {k : KV} {Q : V → List Cell → Prop} (k0 : Keep lk σ0 σ) (h : eCallM C T n r lk nk p o name apos es pos q m σ k) (f : Lead lk σ0 k Q) : WL C H env (.Call (.Attribute o name apos) es [] pos) m σ Q := by
  have i := j.down
  obtain ⟨g, h⟩ := chk_ok h
  obtain ⟨g1, g⟩ := Bool.and_eq_true_iff.mp g
  obtain ⟨g2, g⟩ := Bool.and_eq_true_iff.mp g
  obtain ⟨g3, g4⟩ := Bool.and_eq_true_iff.mp g
  have b := fun name => base_plain (name := name) (env := env) ((Bool.not_eq_true' _).mp g2)
  have g4 : es.length < 30 := Nat.le_of_ble_eq_true g4
  rcases alt_or h with ⟨mn, hm, h⟩ | ⟨_, h⟩
  · obtain ⟨pa, sl, ty⟩ := mn_ok hm
    refine wl_meth (b _) (attr_line g3) (star_any g1) g4 pa sl ty (S.e i k0 h fun q d σ₁ k1 h => ?_)
    obtain ⟨b, q', e, h⟩ := ask_ok h
    obtain ⟨hb, h⟩ := chk_ok h
    refine ⟨ty_ok ((Option.some.inj e).trans hb), S.l i k1 h fun q ds σ₂ k2 h => ?_⟩
    obtain ⟨p, q', e, h⟩ := ask_ok h
    obtain ⟨k3, w⟩ := meth_ok (lk := lk) e
    exact w.to (f _ _ _ (k2.trans k3) h)
  · refine wl_methI (b _) (attr_line g3) (star_any g1) g4 (S.e i k0 h fun q d σ₁ k1 h => ?_)
    obtain ⟨p, _, hd, h⟩ := opt_ok h
    obtain ⟨kvs, q', e, h⟩ := ask_ok h
    obtain ⟨nn, h⟩ := chk_ok h
    obtain ⟨KK, _, hK, h⟩ := opt_ok h
    obtain ⟨F, _, hF, h⟩ := opt_ok h
    obtain ⟨ck, cm, _⟩ := S.TO.meth _ _ hK
    obtain ⟨f1, f2, oF⟩ := cm _ _ ((lkp_eq _ _).symm.trans hF)
    exact ⟨p.1, p.2, kvs, F.addr, asO_ok hd, dcell_ok e, (lkp_eq _ _).symm.trans (Option.not_isSome_iff_eq_none.mp fun z => Bool.false_ne_true (((Bool.not_eq_true' _).mp nn).symm.trans z)), ck, f1, f2, look_of oF, S.l i k1 h fun q ds σ₂ k2 h => (call_ev S oF k2 h f).up (Nat.le_of_succ_le j.l)⟩
theorem attr_ev (S : Snd C T n r) (i : In n H nk env) {p : Nat} {o : Expr} {name : Str} {pos : Pos} {q : Qu} {k : KV} {Q : V → List Cell → Prop} (k0 : Keep lk σ0 σ) (h : eAttr T r lk nk p o name q m σ k) (f : Lead lk σ0 k Q) : WL C H env (.Attribute o name pos) m σ Q := by
  obtain ⟨g, h⟩ := chk_ok h
  refine wl_attr (base_plain ((Bool.not_eq_true' _).mp g)) (S.e i k0 h fun q d σ' k1 h => ?_)
  obtain ⟨p, _, e0, h⟩ := opt_ok h
  obtain ⟨kvs, q', e, h⟩ := ask_ok h
  obtain ⟨KK, _, hK, h⟩ := opt_ok h
  obtain ⟨ha, h⟩ := chk_ok h
  obtain ⟨v, _, hv, h⟩ := opt_ok h
  obtain ⟨ck, _, ca⟩ := S.TO.meth _ _ hK
  exact ⟨p.1, p.2, kvs, v, asO_ok e0, dcell_ok e, (lkp_eq _ _).symm.trans hv, ck, (ca _ ((memF_eq _ _).symm.trans ha)).1, f _ _ _ k1 h⟩
theorem sub_plain {e : Expr} (h : slA e = none) (o v : Value) : subscripted e false o v = operate [o, v] (getItem o v) := by
  cases e <;> first | rfl | exact nomatch h
theorem sub_ev (S : Snd C T n r) (i : In n H nk env) {p : Nat} {v j : Expr} {pos : Pos} {q : Qu} {k : KV} {Q : V → List Cell → Prop} (k0 : Keep lk σ0 σ) (hs : eSub r lk nk p v j q m σ k) (f : Lead lk σ0 k Q) : WL C H env (.Subscript v j pos) m σ Q := by
  rcases alt_or hs with ⟨⟨lo, hi, st, p1⟩, e, h⟩ | ⟨e, h⟩
  · obtain rfl := slA_ok e
    rcases alt_or h with ⟨st, rfl, h⟩ | ⟨rfl, h⟩
    · obtain ⟨g, h⟩ := chk_ok h
      have g := Bool.and_eq_true_iff.mp g
      rw [Option.isNone_iff_eq_none.mp g.1, Option.isNone_iff_eq_none.mp g.2]
      refine wl_rev (S.e i k0 h fun q o σ₁ k1 h => S.e i k1 h fun q d σ₂ k2 h => ?_)
      obtain ⟨j, _, ej, h⟩ := opt_ok h
      obtain ⟨j1, h⟩ := chk_ok h
      obtain ⟨d, q', e, h⟩ := ask_ok h
      obtain ⟨t, e⟩ := cnd_no e
      obtain ⟨xs, hx, l, rfl⟩ := lt_ok e
      exact ⟨xs, holds_of hx, t, l, eq_of_beq j1 ▸ asI_ok ej, f _ _ _ k2 h⟩
    · refine wl_slice (S.e i k0 h fun q o σ₁ k1 h => part_ev S i k1 h fun q a σ₂ k2 h => part_ev S i k2 h fun q b σ₃ k3 h => ?_)
      obtain ⟨d, q', e, h⟩ := ask_ok h
      exact ⟨d, slc_of e, f _ _ _ k3 h⟩
  · refine wl_sub (sub_plain e) (S.e i k0 h fun q a σ₁ k1 h => S.e i k1 h fun q b σ₂ k2 h A s ρ va vb P R R' => ?_)
    obtain ⟨d, q', e, h⟩ := ask_ok h
    obtain ⟨T, id, t1, t2, w⟩ := iop_ok e A s ρ va vb P R R'
    exact ⟨T, id, t1, t2, mono w fun v s' z => z.to (f _ _ _ k2 h)⟩
theorem const_ev {c : Const} {j : Nat} {pos : Pos} {q : Qu} {k : KV} {Q : V → List Cell → Prop} (k0 : Keep lk σ0 σ) (h : eConst c q σ k) (f : Lead lk σ0 k Q) : WL C H env (.Constant c j pos) m σ Q := by
  cases c with
  | none => exact wl_none (f _ _ _ k0 h)
  | bool b => exact wl_bool (f _ _ _ k0 h)
  | int i => exact wl_int (f _ _ _ k0 h)
  | str x =>
    obtain ⟨g, h⟩ := chk_ok h
    exact wl_str ((okF_eq x).symm.trans g) (f _ _ _ k0 h)
  | _ => exact h.elim
theorem un_ev (S : Snd C T n r) (i : In n H nk env) {op : UnaryOp} {e : Expr} {pos : Pos} {q : Qu} {k : KV} {Q : V → List Cell → Prop} (k0 : Keep lk σ0 σ) (h : eUn r lk nk op e q m σ k) (f : Lead lk σ0 k Q) : WL C H env (.UnaryOp op e pos) m σ Q := by
  cases op with
  | Not =>
    refine wl_not (S.e i k0 h fun q d σ' k1 h => ?_)
    obtain ⟨b, q', e, h⟩ := ask_ok h
    exact ⟨b, asB_ok e, f _ _ _ k1 h⟩
  | USub =>
    refine wl_neg (S.e i k0 h fun q d σ' k1 h => ?_)
    obtain ⟨i, _, e, h⟩ := opt_ok h
    exact ⟨i, asI_ok e, f _ _ _ k1 h⟩
  | _ => exact h.elim
theorem name_ev (S : Snd C T n r) (i : In n H nk env) {x : Str} {pos : Pos} {q : Qu} {k : KV} {Q : V → List Cell → Prop} (k0 : Keep lk σ0 σ) (h : eName T nk x q m σ k) (f : Lead lk σ0 k Q) : WL C H env (.Name x pos) m σ Q := by
  rcases alt_or h with ⟨d, e, h⟩ | ⟨_, h⟩
  · exact wl_var ((lkp_eq _ _).symm.trans e) (f _ _ _ k0 h)
  · obtain ⟨g, h⟩ := chk_ok h
    obtain ⟨d, _, e, h⟩ := opt_ok h
    obtain ⟨v, gv, R⟩ := S.TO.glos _ _ ((lkp_eq _ _).symm.trans e)
    exact wl_glo (glob_out i.K g) gv (fun h ρ S X => R h ρ σ S X) (f _ _ _ k0 h)
theorem dict_ev (S : Snd C T n r) (i : In n H nk env) {ks : List (Option Expr)} {es : List Expr} {pos : Pos} {q : Qu} {k : KV} {Q : V → List Cell → Prop} (k0 : Keep lk σ0 σ) (hd : eDct r lk nk ks es q m σ k) (f : Lead lk σ0 k Q) : WL C H env (.Dict ks es pos) m σ Q := by
  obtain ⟨kk, _, hk, h⟩ := opt_ok hd
  obtain rfl := keys_of hk
  obtain ⟨g, h⟩ := chk_ok h
  obtain ⟨g1, g⟩ := Bool.and_eq_true_iff.mp g
  obtain ⟨g3, g4⟩ := Bool.and_eq_true_iff.mp g
  have g1 := Nat.eq_of_beq_eq_true g1
  cases kk with
  | nil =>
    obtain rfl := List.eq_nil_of_length_eq_zero g1.symm
    exact wl_dict0 (f _ _ _ (k0.trans .snoc) h)
  | cons a kk => exact wl_dict g1 (List.cons_ne_nil _ _) (Nat.le_of_ble_eq_true g3) (ndF_ok g4) (es_ev S i g1 k0 h fun q ds σ' k1 h => f _ _ _ (k1.trans .snoc) h)
theorem lcomp_ev (S : Snd C T n r) (i : In n H nk env) {p : Nat} {elt : Expr} {gs : List Comprehension} {sc : Scope} {pos : Pos} {q : Qu} {k : KV} {Q : V → List Cell → Prop} (k0 : Keep lk σ0 σ) (h : eComp r lk nk p elt gs sc q m σ k) (f : Lead lk σ0 k Q) : WL C H env (.ListComp elt gs sc pos) m σ Q := by
  cases gs with
  | nil => exact h.elim
  | cons g gs =>
    obtain ⟨ga, h⟩ := chk_ok h
    obtain ⟨tgt, iter, ifs, a⟩ := g
    obtain rfl : a = 0 := eq_of_beq ga
    cases gs with
    | nil =>
      obtain ⟨cs, f1, w⟩ := comp_ev S i k0 h fun q acc σ' k1 h => f q (.lst acc) σ' k1 h
      exact wl_comp (inner sc m) cs (fsi_plain f1 env) (fun x d e => inner_lookup e) w
    | cons g gs =>
      obtain ⟨tgt2, iter2, ifs2, a⟩ := g
      obtain ⟨ga, h⟩ := chk_ok h
      have ga := Bool.and_eq_true_iff.mp ga
      obtain rfl : a = 0 := eq_of_beq ga.1
      obtain rfl : gs = [] := List.isEmpty_iff.mp ga.2
      obtain ⟨f2, cs, f1, w⟩ := comp2_ev S i k0 h fun q acc σ' k1 h => f q (.lst acc) σ' k1 h
      exact wl_comp2 (inner sc m) cs (fsi_plain f1 env) (fsi_plain f2) (fun x d e => inner_lookup e) w
theorem ecall_ev (S : Snd C T n r) (i : In (n + 1) H nk env) {fn : Expr} {es : List Expr} {kws : List Keyword} {pos : Pos} {q : Qu} {k : KV} {Q : V → List Cell → Prop} (k0 : Keep lk σ0 σ) (hc : eCall C T n r lk nk fn es kws pos q m σ k) (f : Lead lk σ0 k Q) : WL C H env (.Call fn es kws pos) m σ Q := by
  obtain ⟨g, h⟩ := chk_ok hc
  obtain rfl : kws = [] := List.isEmpty_iff.mp g
  rcases alt_or h with ⟨x, e, h⟩ | ⟨_, h⟩
  · obtain ⟨fp, rfl⟩ := nmA_ok e
    exact calln_ev S i k0 h f
  · obtain ⟨a, _, e, h⟩ := opt_ok h
    obtain rfl := attrA_ok e
    exact meth_ev S i k0 h f
theorem e_ev (S : Snd C T n r) (j : In (n + 1) H nk env) {x : Expr} {q : Qu} {k : KV} {Q : V → List Cell → Prop} (k0 : Keep lk σ0 σ) (h : evE C T n r lk nk x q m σ k) (f : Lead lk σ0 k Q) : WL C H env x m σ Q := by
  have i := j.down
  cases x with
  | Name x p => exact name_ev S i k0 h f
  | Constant c i p => exact const_ev k0 h f
  | BinOp a op b p =>
    refine wl_bin (S.e i k0 h fun q x σ₁ k1 h => S.e i k1 h fun q y σ₂ k2 h A s ρ va vb P R R' => ?_)
    obtain ⟨c, q', e, h⟩ := ask_ok h
    exact mono (bop_ok e A s ρ va vb P R R') fun v s' z => z.to (f _ _ _ k2 h)
  | Compare a ops rs p => exact cmp_ev (Q := fun b σ => Q (.bool b) σ) (P := fun ops rs => WL C H env (.Compare a ops rs p) m σ Q) S i k0 h (fun q c σ' k1 h => f q (.bool c) σ' k1 h) fun op b g w => wl_cmp w g
  | BoolOp op es p =>
    cases es with
    | nil => exact h.elim
    | cons e es => exact wl_boolop (boolv_ev S i k0 h fun q b σ' k1 h => f _ _ _ k1 h)
  | UnaryOp op e p => exact un_ev S i k0 h f
  | IfExp t b o p => exact wl_ifexp (S.b i k0 h fun q c σ' k1 h => by cases c <;> exact S.e i k1 h f)
  | Tuple es _ p =>
    obtain ⟨g, h⟩ := chk_ok h
    refine wl_tuple (S.l i k0 h fun q ds σ' k1 h => ?_)
    obtain ⟨b, h⟩ := chk_ok h
    exact ⟨Nat.le_of_ble_eq_true b, f _ _ _ k1 h⟩
  | List es p =>
    obtain ⟨g, h⟩ := chk_ok h
    refine wl_listM (S.l i k0 h fun q ds σ' k1 h => ?_)
    obtain ⟨b, h⟩ := chk_ok h
    exact ⟨Nat.le_of_ble_eq_true b, f _ _ _ (k1.trans .snoc) h⟩
  | Dict ks es p => exact dict_ev S i k0 h f
  | ListComp elt gs sc p => exact lcomp_ev S i k0 h f
  | Call fn es kws p => exact ecall_ev S j k0 h f
  | Attribute o name p => exact attr_ev S i k0 h f
  | Subscript v i' p => exact sub_ev S i k0 h f
  | JoinedStr es p =>
    obtain ⟨g, h⟩ := chk_ok h
    match es, g with
    | a :: b :: es, _ => exact wl_fstr (fstr_ev S i k0 h fun q x σ' k1 h => f q (.str x) σ' k1 h)
  | _ => exact h.elim
end
theorem purA_ok {α : Type} {x : Sem α} {a : α} (h : purA x = some a) : x = pure a := by
  cases x with
  | pure b => exact congrArg Sem.pure (Option.some.inj h)
  | _ => exact none_ne h
theorem sw_same {env : Env} {v : Expr} {t : Option Expr} {l : Nat} (fn : env.scope.kind = .function) : swapsWith v t l env = swapsWith v t l (dumEnv env.scope.names) := by
  obtain ⟨⟨kind, _, _, _, _⟩, _, _, _, _, _, _, _, _⟩ := env
  obtain rfl : kind = _ := fn
  rfl
theorem st_same {env : Env} {v : Expr} {t : List Expr} (fn : env.scope.kind = .function) : swappedStores t v env = swappedStores t v (dumEnv env.scope.names) := by
  obtain ⟨⟨kind, _, _, _, _⟩, _, _, _, _, _, _, _, _⟩ := env
  obtain rfl : kind = _ := fn
  rfl
section
variable {C : Cx} {T : Tab} {n H : Nat} {r : Ev} {env : Env} {nk : Nk} {m m' : M} {σ0 σ σ' : List Cell} {lk : List Nat}
theorem l_ev (S : Snd C T n r) (i : In n H nk env) {es : List Expr} {q : Qu} {k : Qu → List V → List Cell → Prop} {Q : List V → List Cell → Prop} (k0 : Keep lk σ0 σ) (h : evL r lk nk es q m σ k) (f : Lead lk σ0 k Q) : WLs C H env es m σ Q := by
  cases es with
  | nil => exact wls_nil (f _ _ _ k0 h)
  | cons e es =>
    obtain ⟨g, h⟩ := chk_ok h
    exact wls_cons (S.e i k0 h fun q d σ₁ k1 h => S.l i k1 h fun q ds σ₂ k2 h => f _ _ _ k2 h) (star_cons ((Bool.not_eq_true' _).mp g))
theorem b_ev (S : Snd C T n r) (i : In n H nk env) {e : Expr} {q : Qu} {k : Qu → Bool → List Cell → Prop} {Q : Bool → List Cell → Prop} (k0 : Keep lk σ0 σ) (h : evB r lk nk e q m σ k) (f : Lead lk σ0 k Q) : WB C H env e m σ Q := by
  have pl : ∀ {e : Expr}, evBp r lk nk e q m σ k → WB C H env e m σ Q := fun h => by
    obtain ⟨g, h⟩ := chk_ok h
    refine wb_val (S.e i k0 h fun q d σ' k1 h => ?_) (isTrue_plain g env)
    obtain ⟨b, q', e, h⟩ := ask_ok h
    exact ⟨b, asB_ok e, f _ _ _ k1 h⟩
  cases e with
  | Compare a ops rs p => exact cmp_ev (P := fun ops rs => WB C H env (.Compare a ops rs p) m σ Q) S i k0 h f fun op b g w => wb_cmp w g
  | BoolOp op es p => exact wb_bool (all_ev S i k0 h f)
  | UnaryOp op e p =>
    cases op with
    | Not => exact wb_not (S.b i k0 h fun q b σ' k1 h => f _ _ _ k1 h)
    | _ => exact h.elim
  | _ => exact pl h
theorem asg1_ev (S : Snd C T n r) (i : In n H nk env) {t : Expr} {d : V} {q : Qu} {k : KM} {Q : M → List Cell → Prop} (k0 : Keep lk σ0 σ) (hh : evAsg1 T r lk nk t d q m σ k) (f : Lead lk σ0 k Q) : WA C H env t d m σ Q := by
  rcases alt_or hh with ⟨p, e, h⟩ | ⟨_, h⟩
  · rw [subA_ok e]
    refine wa_sub (S.e i k0 h fun q o σ₁ k1 h => S.e i k1 h fun q i σ₂ k2 h A s ρ vo vi vd P R R' R'' => ?_)
    obtain ⟨σ₃, q', e, h⟩ := ask_ok h
    obtain ⟨k3, w3⟩ := uop_ok (C := C) (H := H) e
    exact mono (w3 A s ρ vo vi vd P R R' R'') fun _ s' ⟨h', tk, σ'', e, g, S', z⟩ => ⟨h', tk, σ'', e, g, S', z ▸ f _ _ _ (k2.trans k3) h⟩
  rcases alt_or h with ⟨p, e, h⟩ | ⟨_, h⟩
  · rw [attrA_ok e]
    refine wa_attr (S.e i k0 h fun q o σ₁ k1 h => ?_)
    obtain ⟨p, _, e0, h⟩ := opt_ok h
    obtain ⟨z, h⟩ := chk_ok h
    obtain ⟨kvs, q', e, h⟩ := ask_ok h
    obtain ⟨KK, _, hK, h⟩ := opt_ok h
    obtain ⟨g, h⟩ := chk_ok h
    have g := Bool.and_eq_true_iff.mp g
    rw [fputK_eq] at h
    obtain ⟨ck, _, ca⟩ := S.TO.meth _ _ hK
    exact ⟨p.1, p.2, kvs, asO_ok e0, dcell_ok e, Nat.le_of_ble_eq_true g.2, ck, (ca _ ((memF_eq _ _).symm.trans g.1)).2, f _ _ _ (k1.trans (.set (memN_eq ((Bool.not_eq_true' _).mp z)))) h⟩
  · obtain ⟨m₁, _, h1, h⟩ := opt_ok h
    exact tgt_wa i.K 2 _ _ _ _ h1 Q (f _ _ _ k0 h)
theorem asgs_ev (S : Snd C T n r) (i : In n H nk env) {Q : M → List Cell → Prop} {ts : List Expr} : ∀ {ds : List V} {q : Qu} {m : M} {σ : List Cell} {k : KM}, ts.length = ds.length → Keep lk σ0 σ → evAsgs T r lk nk ts ds q m σ k → Lead lk σ0 k Q → WAs C H env Q ts ds m σ := by
  induction ts with
  | nil =>
    intro ds q m σ k l k0 h f
    obtain rfl := List.eq_nil_of_length_eq_zero l.symm
    exact f _ _ _ k0 h
  | cons t ts ih =>
    intro ds q m σ k l k0 h f
    cases ds with
    | nil => exact h.elim
    | cons d ds =>
      have h : evAsg1 T r lk nk t d q m σ fun q m σ => evAsgs T r lk nk ts ds q m σ k := h
      exact asg1_ev S i k0 h fun q m σ' k1 h => ih (Nat.succ.inj l) k1 h f
theorem asg_ev (S : Snd C T n r) (i : In n H nk env) {t : Expr} {d : V} {q : Qu} {k : KM} {Q : M → List Cell → Prop} (k0 : Keep lk σ0 σ) (h : evAsg T r lk nk t d q m σ k) (f : Lead lk σ0 k Q) : WA C H env t d m σ Q := by
  rcases alt_or h with ⟨ts, e, h⟩ | ⟨_, h⟩
  · obtain ⟨ds, _, e2, h⟩ := opt_ok h
    obtain ⟨g, h⟩ := chk_ok h
    have g := Bool.and_eq_true_iff.mp g
    obtain ⟨j, p, e⟩ := tupA_ok e
    rw [asT_ok e2, e]
    exact wa_tuple (Nat.eq_of_beq_eq_true g.2) (asg_eq g.1) (asgs_ev S i (Nat.eq_of_beq_eq_true g.2) k0 h f)
  · exact asg1_ev S i k0 h f
theorem as_ev (S : Snd C T n r) (i : In n H nk env) (nm : env.scope.names = nk) {t value : Expr} {pos : Pos} {q : Qu} {k : KM} {Q : Fl → M → List Cell → Prop} (k0 : Keep lk σ0 σ) (hh : evAs T r lk nk t value pos q m σ k) (f : Lead lk σ0 k (Q .next)) : W1 C H env (.Assign [t] value pos) m σ Q := by
  obtain ⟨sw, _, hs, h⟩ := opt_ok hh
  have hs := (sw_same i.K.fn).trans (nm ▸ purA_ok hs)
  rcases cnd_or h with ⟨rfl, h⟩ | ⟨rfl, h⟩
  · obtain ⟨x, _, e1, h⟩ := opt_ok h
    obtain ⟨v, _, e2, h⟩ := opt_ok h
    obtain ⟨⟨tgt, iter, ifs, a⟩, _, e3, h⟩ := opt_ok h
    obtain ⟨so, h⟩ := chk_ok h
    obtain ⟨a0, so⟩ := Bool.and_eq_true_iff.mp so
    obtain ⟨p, e1⟩ := nmA_ok e1
    have a0 : a = 0 := eq_of_beq a0
    have e2 := compA_ok e2
    rw [hd1_ok e3, a0] at e2
    rw [e1, e2] at hs ⊢
    obtain ⟨cs, f1, w⟩ := comp_ev (Q := fun acc σ' => Q .next ((x, .lst acc) :: m) σ') S i k0 h fun q acc σ' k1 h => f q _ σ' k1 h
    exact w1_assign_comp (inner _ m) (sto_of i.K so) hs cs (fsi_plain f1 env) (fun x d e => inner_lookup e) w
  · obtain ⟨ss, _, h0, h⟩ := opt_ok h
    have hss := (st_same i.K.fn).trans (nm ▸ purA_ok h0)
    rcases alt_or h with ⟨names, rfl, h⟩ | ⟨rfl, h⟩
    · obtain ⟨g, h⟩ := chk_ok h
      obtain ⟨g1, g⟩ := Bool.and_eq_true_iff.mp g
      obtain ⟨g2, g⟩ := Bool.and_eq_true_iff.mp g
      obtain ⟨_, g1⟩ := Option.isSome_iff_exists.mp g1
      obtain ⟨_, g2⟩ := Option.isSome_iff_exists.mp g2
      obtain ⟨_, _, g1⟩ := tupA_ok g1
      obtain ⟨_, _, g2⟩ := tupA_ok g2
      rw [g1, g2] at hss ⊢
      rw [g2] at h
      refine w1_assign_swap names hss (fun n hn => sto_of i.K (List.all_eq_true.mp g n hn)) (S.e i k0 h fun q d σ' k1 h => ?_)
      obtain ⟨ds, _, e, h⟩ := opt_ok h
      obtain ⟨g, h⟩ := chk_ok h
      exact ⟨ds, asT_ok e, Nat.eq_of_beq_eq_true g, f _ _ _ k1 h⟩
    · obtain ⟨g, h⟩ := chk_ok h
      exact w1_assign_t hs hss (asg_cons (es := []) ((Bool.not_eq_true' _).mp g)) (S.e i k0 h fun q d σ' k1 h => asg_ev S i k1 h f)
theorem s_ev (S : Snd C T n r) (i : In n H nk env) (nm : env.scope.names = nk) {st : Stmt} {q : Qu} {k : KX} {Q : Fl → M → List Cell → Prop} (k0 : Keep lk σ0 σ) (h : evS T r lk nk st q m σ k) (f : Lead2 lk σ0 k Q) : W1 C H env st m σ Q := by
  cases st with
  | If t b o p => exact w1_if (S.b i k0 h fun q c σ' k1 h => by cases c <;> exact S.x i nm k1 h f)
  | Return e p =>
    obtain ⟨e, _, rfl, h⟩ := opt_ok h
    exact w1_ret (S.e i k0 h fun q d σ' k1 h => f _ _ _ _ k1 h)
  | Expr e p =>
    obtain ⟨g, h⟩ := chk_ok h
    refine w1_expr (S.e i k0 h fun q d σ' k1 h => ?_) (sw_none ((Bool.not_eq_true' _).mp g) _ env)
    obtain ⟨g, h⟩ := chk_ok h
    exact ⟨isN_ok g, f _ _ _ _ k1 h⟩
  | For tgt iter body els p =>
    obtain ⟨g, h⟩ := chk_ok h
    rw [List.isEmpty_iff.mp g]
    obtain ⟨ns, w⟩ : isSet iter = false ∧ WI C H env iter tgt m σ fun xs Sσ σ₁ => LoopP C H env tgt body Sσ Q xs m σ₁ := it_ev S i k0 h fun q xs lks σ₁ Sσ k1 h hS => by
      obtain ⟨x, q, kk, h, g⟩ := forC_ok h
      exact for_ev S i nm (fun _ k2 => hS _ k2.l) .refl h fun q fl m' σ' k2 h => (g _ _ _ _ h).elim fun q h => f _ _ _ _ (k1.trans k2.r) h
    exact w1_for (fsi_plain ns env) w
  | While t b els p =>
    obtain ⟨g, h⟩ := chk_ok h
    rw [List.isEmpty_iff.mp g]
    exact w1_while 100 (while_ev S i nm k0 h f)
  | Assign ts value p =>
    obtain ⟨t, _, g, h⟩ := opt_ok h
    rw [hd1_ok g]
    exact as_ev S i nm k0 h fun q m' σ' k1 h => f q .next m' σ' k1 h
  | _ => exact h.elim
theorem x_ev (S : Snd C T n r) (i : In n H nk env) (nm : env.scope.names = nk) {b : List Stmt} {q : Qu} {k : KX} {Q : Fl → M → List Cell → Prop} (k0 : Keep lk σ0 σ) (h : evX T r lk nk b q m σ k) (f : Lead2 lk σ0 k Q) : WX C H env b m σ Q := by
  cases b with
  | nil => exact wx_nil (f _ _ _ _ k0 h)
  | cons st rest =>
    refine wx_cons (s_ev S i nm k0 h fun q fl m' σ' k1 h => ?_)
    cases fl with
    | next => exact S.x i nm k1 h f
    | _ => exact f _ _ _ _ k1 h
theorem ev_ok (TO : TabOk C T) (n : Nat) : Snd C T n (ev C T n) := by
  induction n with
  | zero => exact ⟨TO, fun _ _ h _ => h.elim, fun _ _ h _ => h.elim, fun _ _ h _ => h.elim, fun _ _ _ h _ => h.elim⟩
  | succ n a => exact ⟨TO, fun i k0 h f => e_ev a i k0 h f, fun i k0 h f => l_ev a i.down k0 h f, fun i k0 h f => b_ev a i.down k0 h f, fun i nm k0 h f => x_ev a i.down nm k0 h f⟩
theorem run_ok {F : FnT} {q : Qu} {ds : List V} {v : V} (h : evFn (ev C T n) lk F q ds σ fun _ d s => d = v ∧ s = σ') : Con C T n F ds σ v σ' := fun TO FO => fn_ok (ev_ok TO n) FO h fun _ _ _ _ e => e
end
def stm (i : Nat) : Stmt := (PySem.Challenge.pw_nu0255_01.main.body[i]?).getD (.Pass ⟨0, 0, 0, 0⟩)
def met (i j : Nat) : Stmt := match stm i with
  | .ClassDef _ _ _ body _ _ _ _ _ _ _ => (body[j]?).getD (.Pass ⟨0, 0, 0, 0⟩)
  | _ => .Pass ⟨0, 0, 0, 0⟩
def asOf : Stmt → List Arg
  | .FunctionDef _ args _ _ _ _ _ _ _ _ => args.args
  | _ => []
def bodyOf : Stmt → List Stmt
  | .FunctionDef _ _ body _ _ _ _ _ _ _ => body
  | _ => []
def scOf : Stmt → Option Scope
  | .FunctionDef _ _ _ _ _ _ sc _ _ _ => some sc
  | _ => none
def noSc : Scope := match stm 0 with
  | .FunctionDef _ _ _ _ _ _ sc _ _ _ => sc
  | _ => default
def mkF (a : Addr) (md : Nat) (s : Stmt) : FnT := ⟨a, asOf s, bodyOf s, (scOf s).getD noSc, md⟩
def valOf : Stmt → Expr
  | .Assign [_] v _ => v
  | _ => .Constant .none 0 ⟨0, 0, 0, 0⟩
def sv1 : List Str → List V
  | [] => []
  | x :: r => .str x :: sv1 r
def signs : List (Str × V) := [("+", .str "union"), ("&", .str "meet"), ("-", .str "minus"), (".", .str "join"), ("++", .str "override"), ("<:", .str "ahead"), (":>", .str "behind")]
def f__wall : FnT := mkF 21 0 (stm 0)
def f_joined : FnT := mkF 29 1 (stm 3)
def f_united_implicit : FnT := mkF 36 1 (stm 4)
def f_relation : FnT := mkF 43 1 (stm 6)
def f_for_each : FnT := mkF 50 1 (stm 7)
def f_place_formulas : FnT := mkF 55 1 (stm 8)
def f_children_formulas : FnT := mkF 60 1 (stm 9)
def f_fact_formulas : FnT := mkF 65 1 (stm 10)
def f_field_formulas : FnT := mkF 72 2 (stm 11)
def f_implied : FnT := mkF 79 3 (stm 12)
def f_all_of : FnT := mkF 162 1 (stm 25)
def f_united_opening : FnT := mkF 169 1 (stm 26)
def f__law_draw : FnT := mkF 642 0 (stm 35)
def f__law_model : FnT := mkF 647 2 (stm 36)
def f__law_parent : FnT := mkF 654 1 (stm 37)
def f__law_supers : FnT := mkF 661 1 (stm 38)
def f__law_items : FnT := mkF 668 1 (stm 39)
def f__law_set : FnT := mkF 673 1 (stm 40)
def f__law_many : FnT := mkF 680 1 (stm 41)
def f__law_true : FnT := mkF 685 1 (stm 42)
def f__law_atoms : FnT := mkF 690 1 (stm 43)
def f__law_sig_holds : FnT := mkF 695 1 (stm 44)
def f__law_value_holds : FnT := mkF 700 1 (stm 45)
def f__law_field_holds : FnT := mkF 705 1 (stm 46)
def f__law_instance : FnT := mkF 710 2 (stm 47)
def f_law : FnT := mkF 715 0 (stm 48)
def m_Names___init__ : FnT := mkF 183 0 (met 28 0)
def m_Names_fresh : FnT := mkF 190 0 (met 28 1)
def m_Names_rel : FnT := mkF 197 1 (met 28 2)
def m_Names_owners : FnT := mkF 202 1 (met 28 3)
def m_Names_orders_of : FnT := mkF 207 1 (met 28 4)
def m_Names_places : FnT := mkF 212 1 (met 28 5)
def m_Names_named : FnT := mkF 217 1 (met 28 6)
def m_Names_order_expr : FnT := mkF 224 1 (met 28 7)
def m_Names_steps : FnT := mkF 229 1 (met 28 8)
def m_Names_this_env : FnT := mkF 236 1 (met 28 9)
def m_Names_arity : FnT := mkF 243 1 (met 28 10)
def m_Names_arity_of_relation : FnT := mkF 248 1 (met 28 11)
def m_Opener_form : FnT := mkF 269 1 (met 29 0)
def m_Opener_form_of_call : FnT := mkF 276 1 (met 29 1)
def m_Opener_value : FnT := mkF 283 0 (met 29 2)
def m_Opener_let_env : FnT := mkF 290 0 (met 29 3)
def m_Opener_begun : FnT := mkF 297 1 (met 29 4)
def m_Opener_call_of : FnT := mkF 304 1 (met 29 5)
def m_Opener_call_env : FnT := mkF 309 0 (met 29 6)
def m_Opener_truth : FnT := mkF 314 1 (met 29 7)
def m_Opener_ordered : FnT := mkF 321 0 (met 29 8)
def m_Opener_compared : FnT := mkF 328 0 (met 29 9)
def m_Opener_decls_of : FnT := mkF 333 0 (met 29 10)
def m_Opener_quantified : FnT := mkF 340 0 (met 29 11)
def m_Opener_expr : FnT := mkF 347 1 (met 29 12)
def m_Opener_all_atoms : FnT := mkF 352 1 (met 29 13)
def m_Opener_same_atoms : FnT := mkF 359 1 (met 29 14)
def m_Opener_turned : FnT := mkF 366 1 (met 29 15)
def m_Opener_wanted : FnT := mkF 373 1 (met 29 16)
def m_Opener_called_expr : FnT := mkF 380 0 (met 29 17)
def m_Opener_number : FnT := mkF 387 0 (met 29 18)
def m_Opener_is_marked : FnT := mkF 394 1 (met 29 19)
def m_Opener_bounded : FnT := mkF 401 2 (met 29 20)
def m_Opener_marked : FnT := mkF 408 2 (met 29 21)
def m_Opener_side : FnT := mkF 415 2 (met 29 22)
def m_Opener_each_of : FnT := mkF 420 2 (met 29 23)
def m_Opener_guarded : FnT := mkF 427 1 (met 29 24)
def m_Opener_within : FnT := mkF 434 2 (met 29 25)
def m_Opener_facts : FnT := mkF 439 0 (met 29 26)
def m_Opener_goal : FnT := mkF 446 0 (met 29 27)
def m_Opener_asserted : FnT := mkF 453 0 (met 29 28)
def m_Opener_witnessed : FnT := mkF 460 0 (met 29 29)
def m_Signatures___init__ : FnT := mkF 479 0 (met 32 0)
def m_Signatures_take_sig : FnT := mkF 486 0 (met 32 1)
def m_Signatures_look_above : FnT := mkF 493 1 (met 32 2)
def m_Signatures_direct : FnT := mkF 500 1 (met 32 3)
def m_Signatures_parents_first : FnT := mkF 505 1 (met 32 4)
def m_Signatures_all_fields : FnT := mkF 512 0 (met 32 5)
def m_Signatures_look_fields : FnT := mkF 519 1 (met 32 6)
def m_Signatures_take_order : FnT := mkF 524 0 (met 32 7)
def m_Signatures_names : FnT := mkF 531 1 (met 32 8)
def m_Signatures_has : FnT := mkF 538 1 (met 32 9)
def m_Signatures_spot : FnT := mkF 545 1 (met 32 10)
def m_Signatures_parent : FnT := mkF 552 1 (met 32 11)
def m_Signatures_supers : FnT := mkF 559 1 (met 32 12)
def m_Signatures_is_subset : FnT := mkF 566 1 (met 32 13)
def m_Signatures_children : FnT := mkF 571 1 (met 32 14)
def m_Signatures_above : FnT := mkF 578 1 (met 32 15)
def m_Signatures_top : FnT := mkF 585 1 (met 32 16)
def m_Signatures_all_above : FnT := mkF 592 1 (met 32 17)
def m_Signatures_is_abstract : FnT := mkF 599 1 (met 32 18)
def m_Signatures_mult : FnT := mkF 606 1 (met 32 19)
def m_Signatures_fields : FnT := mkF 613 0 (met 32 20)
def m_Signatures_facts : FnT := mkF 620 1 (met 32 21)
def m_Signatures_orders : FnT := mkF 627 1 (met 32 22)
def tab : Tab where
  fns := [(("joined" : Str), f_joined), (("united_implicit" : Str), f_united_implicit), (("relation" : Str), f_relation), (("for_each" : Str), f_for_each), (("place_formulas" : Str), f_place_formulas), (("children_formulas" : Str), f_children_formulas), (("fact_formulas" : Str), f_fact_formulas), (("field_formulas" : Str), f_field_formulas), (("implied" : Str), f_implied), (("all_of" : Str), f_all_of), (("united_opening" : Str), f_united_opening), (("_law_draw" : Str), f__law_draw), (("_law_model" : Str), f__law_model), (("_law_parent" : Str), f__law_parent), (("_law_supers" : Str), f__law_supers), (("_law_items" : Str), f__law_items), (("_law_set" : Str), f__law_set), (("_law_many" : Str), f__law_many), (("_law_true" : Str), f__law_true), (("_law_atoms" : Str), f__law_atoms), (("_law_sig_holds" : Str), f__law_sig_holds), (("_law_value_holds" : Str), f__law_value_holds), (("_law_field_holds" : Str), f__law_field_holds), (("_law_instance" : Str), f__law_instance), (("law" : Str), f_law)]
  cls := [(("Signatures" : Str), ⟨630, m_Signatures___init__, [(("take_sig" : Str), m_Signatures_take_sig), (("look_above" : Str), m_Signatures_look_above), (("direct" : Str), m_Signatures_direct), (("parents_first" : Str), m_Signatures_parents_first), (("all_fields" : Str), m_Signatures_all_fields), (("look_fields" : Str), m_Signatures_look_fields), (("take_order" : Str), m_Signatures_take_order), (("names" : Str), m_Signatures_names), (("has" : Str), m_Signatures_has), (("spot" : Str), m_Signatures_spot), (("parent" : Str), m_Signatures_parent), (("supers" : Str), m_Signatures_supers), (("is_subset" : Str), m_Signatures_is_subset), (("children" : Str), m_Signatures_children), (("above" : Str), m_Signatures_above), (("top" : Str), m_Signatures_top), (("all_above" : Str), m_Signatures_all_above), (("is_abstract" : Str), m_Signatures_is_abstract), (("mult" : Str), m_Signatures_mult), (("fields" : Str), m_Signatures_fields), (("facts" : Str), m_Signatures_facts), (("orders" : Str), m_Signatures_orders)], [("entries" : Str), ("opened" : Str), ("ordered" : Str), ("own_fields" : Str), ("stands" : Str)]⟩),
    (("Opener" : Str), ⟨463, m_Names___init__, [(("form" : Str), m_Opener_form), (("form_of_call" : Str), m_Opener_form_of_call), (("value" : Str), m_Opener_value), (("let_env" : Str), m_Opener_let_env), (("begun" : Str), m_Opener_begun), (("call_of" : Str), m_Opener_call_of), (("call_env" : Str), m_Opener_call_env), (("truth" : Str), m_Opener_truth), (("ordered" : Str), m_Opener_ordered), (("compared" : Str), m_Opener_compared), (("decls_of" : Str), m_Opener_decls_of), (("quantified" : Str), m_Opener_quantified), (("expr" : Str), m_Opener_expr), (("all_atoms" : Str), m_Opener_all_atoms), (("same_atoms" : Str), m_Opener_same_atoms), (("turned" : Str), m_Opener_turned), (("wanted" : Str), m_Opener_wanted), (("called_expr" : Str), m_Opener_called_expr), (("number" : Str), m_Opener_number), (("is_marked" : Str), m_Opener_is_marked), (("bounded" : Str), m_Opener_bounded), (("marked" : Str), m_Opener_marked), (("side" : Str), m_Opener_side), (("each_of" : Str), m_Opener_each_of), (("guarded" : Str), m_Opener_guarded), (("within" : Str), m_Opener_within), (("facts" : Str), m_Opener_facts), (("goal" : Str), m_Opener_goal), (("asserted" : Str), m_Opener_asserted), (("witnessed" : Str), m_Opener_witnessed), (("fresh" : Str), m_Names_fresh), (("rel" : Str), m_Names_rel), (("owners" : Str), m_Names_owners), (("orders_of" : Str), m_Names_orders_of), (("places" : Str), m_Names_places), (("named" : Str), m_Names_named), (("order_expr" : Str), m_Names_order_expr), (("steps" : Str), m_Names_steps), (("this_env" : Str), m_Names_this_env), (("arity" : Str), m_Names_arity), (("arity_of_relation" : Str), m_Names_arity_of_relation)], [("calls" : Str), ("count" : Str), ("items" : Str), ("kinds" : Str), ("numbers" : Str), ("signatures" : Str)]⟩)]
  glos := [(("THIS" : Str), .tup [.str "var", .str "this"]), (("NUMBER_HEADS" : Str), .tup (sv1 ["num", "count", "plus", "less", "times", "sum", "choose"])), (("TRUTH_HEADS" : Str), .tup (sv1 ["true", "false", "not", "and", "or", "implies", "iff", "in", "same", "some", "no", "one", "lone", "all", "exists", "le", "lt", "eq"])), (("SET_SIGNS" : Str), .dct signs), (("TURNED" : Str), .tup (sv1 ["~", "^", "*"])), (("_law_MULTS" : Str), .tup (sv1 ["", "one", "lone", "some", "set"]))]
theorem okF_lit (s : String) : okF (Str.ofString s).cps.toList = true := by
  rw [Str.ofString_eq_toList]
  refine List.all_eq_true.mpr fun x m => ?_
  obtain ⟨c, _, rfl⟩ := List.mem_map.mp m
  exact Nat.ble_eq_true_of_le (c.valid.elim (fun h => Nat.le_trans (Nat.le_of_lt h) (by decide)) fun h => Nat.lt_succ_iff.mp h.2)
theorem ofString_inj {a b : String} (h : Str.ofString a = Str.ofString b) : a = b := by
  rw [Str.ofString_eq_toList, Str.ofString_eq_toList, Str.mk.injEq] at h
  have h2 : a.toList.map Char.toNat = b.toList.map Char.toNat := by simpa using h
  have h3 : a.toList = b.toList := by
    have inj : ∀ c d : Char, c.toNat = d.toNat → c = d := fun c d e => Char.ext (UInt32.toNat_inj.mp e)
    have : ∀ l m : List Char, l.map Char.toNat = m.map Char.toNat → l = m := fun l => by
      induction l with
      | nil => intro m e; cases m <;> simp_all
      | cons c l ih => intro m e; cases m with
        | nil => simp at e
        | cons d m =>
          simp only [List.map_cons, List.cons.injEq] at e
          rw [inj c d e.1, ih m e.2]
    exact this _ _ h2
  exact String.toList_inj.mp h3
theorem sq_lit (a b : String) : sq (Str.ofString a) (Str.ofString b) = (a == b) := by
  rw [Bool.eq_iff_iff, sq_iff, beq_iff_eq]
  exact ⟨ofString_inj, fun h => by rw [h]⟩
theorem sq_self (x : Str) : sq x x = true := sq_iff.mpr rfl
theorem cat_lit (a b : String) : Str.ofString a ++ Str.ofString b = Str.ofString (a ++ b) := by
  rw [Str.ofString_eq_toList, Str.ofString_eq_toList, Str.ofString_eq_toList]
  show Str.append _ _ = _
  unfold Str.append
  simp
theorem len_lit (a : String) : (Str.ofString a).length = a.length := by
  rw [Str.ofString_eq_toList]
  show Array.size _ = _
  simp [String.length_toList]
abbrev S (s : String) : Str := Str.ofString s
abbrev sv (s : String) : V := .str (Str.ofString s)
def rowV (r : List Int) : V := .tup (r.map .int)
def relV (rs : List (List Int)) : V := .lst (rs.map rowV)
def hereV (H : List (List (List Int))) : V := .lst (H.map relV)
def strsV (l : List String) : List V := l.map fun s => .str (Str.ofString s)
abbrev Ent := List (String × Int)
def entV (e : Ent) : List (Str × V) := e.map fun p => (Str.ofString p.1, .int p.2)
theorem ob {a b : Prop} (x : a) (y : b) : a ∧ b := ⟨x, y⟩
theorem grd_of {α : Type} {b : Bool} {x : α} (h : b = true) : grd b x = some x := by rw [h]; rfl
theorem dc_of {σ : List Cell} {n : Nat} {ds : List (Str × V)} (h : σ[n]? = some (.dict ds)) : dcell σ n = some ds := by unfold dcell; rw [h]; rfl
theorem gd_of {σ : List Cell} {n : Nat} {ds : List (Str × V)} (h : σ[n]? = some (.dict ds)) : getDc σ (.loc n) = some ds := dc_of h
theorem gl_of {σ : List Cell} {n : Nat} {ds : List V} (h : σ[n]? = some (.list ds)) : getL σ (.loc n) = some ds := (congrArg (fun c : Option Cell => c.bind _) h).trans rfl
theorem ix_of {σ : List Cell} {n : Nat} {ds : List (Str × V)} {x : Str} {v : V} (h : σ[n]? = some (.dict ds)) (l : lkp ds x = some v) : evIdx (.loc n) (.str x) σ = some v := (congrArg (·.bind fun kvs => lkp kvs x) (gd_of h)).trans l
theorem ixd_of {σ : List Cell} {ds : List (Str × V)} {x : Str} {v : V} (l : lkp ds x = some v) : evIdx (.dct ds) (.str x) σ = some v := l
structure Plan where
  ab : Bool
  kids : Nat
  part : Nat
  mA : String
  mB : String
  mC : String
  mD : String
  mE : String
  ow : Bool
  kind : Nat
  left : String
  right : String
  mult : String
  two : Bool
  fact : String
def kidsL : Nat → List String
  | 0 => []
  | 1 => ["C"]
  | _ => ["C", "D"]
def Plan.owner (p : Plan) : String := if p.ow then "C" else "A"
def Plan.fields (p : Plan) : List String := if p.two then ["f", "g"] else ["f"]
def Plan.names (p : Plan) : List String := ["A", "B"] ++ (kidsL p.kids ++ if 0 < p.part then ["E"] else [])
def multsV (p : Plan) : V := .dct [(S "A", sv p.mA), (S "B", sv p.mB), (S "C", sv p.mC), (S "D", sv p.mD), (S "E", sv p.mE)]
def planV (p : Plan) : V := .dct [(S "abstract", .bool p.ab), (S "kids", .tup (strsV (kidsL p.kids))), (S "part", .int p.part), (S "mults", multsV p), (S "owner", sv p.owner), (S "kind", .int p.kind), (S "left", sv p.left), (S "right", sv p.right), (S "mult", sv p.mult), (S "fields", .tup (strsV p.fields)), (S "fact", sv p.fact), (S "names", .tup (strsV p.names))]
def muV (p : Plan) (x : String) : Option V := lkp [(S "A", sv p.mA), (S "B", sv p.mB), (S "C", sv p.mC), (S "D", sv p.mD), (S "E", sv p.mE)] (S x)
def Plan.nm (p : Plan) : List String := p.names ++ p.fields.map fun f => p.owner ++ "." ++ f
def Plan.num (p : Plan) (x : String) : Nat := p.nm.findIdx (· == x)
def parS (x : String) : String := cond (["C", "D"].contains x) "A" ""
def itemG (x mu : String) (ab : Bool) (par : String) (sup : List String) (decl fact : List V) : V := .tup [sv "sig", .int 0, .tup [sv x], .bool ab, sv mu, sv par, .tup (strsV sup), .tup decl, .tup fact]
def fieldsG (fs : List String) (own mult : String) (node : V) (two : Bool) : List V := fs.map fun f => .tup [sv f, sv own, sv mult, node, .int 0, .int (if two then 0 else -1)]
def declG (fs : List String) (mult : String) (node : V) (two : Bool) : V := .tup [.int 0, .bool two, .tup (strsV fs), sv mult, node]
def supG (part : Nat) (x : String) : List String := if x == "E" then ["A", "B"].take part else []
def nmG (kids part : Nat) : List String := ["A", "B"] ++ (kidsL kids ++ if 0 < part then ["E"] else [])
def itG (kids part : Nat) (ow two ab : Bool) (mu : String → String) (mult : String) (node : V) (fact : List V) : List V :=
  (nmG kids part).map fun x => itemG x (mu x) (x == "A" && ab) (parS x) (supG part x) (if x == (if ow then "C" else "A") then [declG (if two then ["f", "g"] else ["f"]) mult node two] else []) (if x == (if ow then "C" else "A") then fact else [])
def sigSt (fd : Cell) (kids part : Nat) (ow two ab : Bool) (mu : String → String) (mult : String) (node : V) (fact : List V) : List Cell :=
  [fd, .dict [(S "entries", .loc 2), (S "stands", .loc 3), (S "opened", .loc 4), (S "ordered", .lst (strsV (nmG kids part))), (S "own_fields", .loc 5)],
   .dict ((nmG kids part).map fun x => (S x, itemG x (mu x) (x == "A" && ab) (parS x) (supG part x) (if x == (if ow then "C" else "A") then [declG (if two then ["f", "g"] else ["f"]) mult node two] else []) (if x == (if ow then "C" else "A") then fact else []))),
   .list (strsV (nmG kids part)), .list [], .list (fieldsG (if two then ["f", "g"] else ["f"]) (if ow then "C" else "A") mult node two)]
def nameE (s : String) : V := .tup [sv "name", .int 0, sv s]
def nodeV (p : Plan) : V := match p.kind with
  | 0 => nameE "B"
  | 1 => nameE "A"
  | 2 => .tup [sv "bin", .int 0, sv "+", nameE "A", nameE "B"]
  | _ => .tup [sv "arrow", .int 0, sv p.left, sv p.right, nameE "B", nameE "A"]
def factV (p : Plan) : List V := if p.fact == "" then [] else [.tup [sv "un", .int 0, sv p.fact, nameE "f"]]
def muS (p : Plan) (x : String) : String := if x == "A" then p.mA else if x == "B" then p.mB else if x == "C" then p.mC else if x == "D" then p.mD else p.mE
def itemsL (p : Plan) : List V := itG p.kids p.part p.ow p.two p.ab (muS p) p.mult (nodeV p) (factV p)
def itemP (p : Plan) (x : String) : V := itemG x (muS p x) (x == "A" && p.ab) (parS x) (supG p.part x) (if x == p.owner then [declG p.fields p.mult (nodeV p) p.two] else []) (if x == p.owner then factV p else [])
def entsL (p : Plan) : List (Str × V) := p.names.map fun x => (S x, itemP p x)
def sigD (p : Plan) : List (Str × V) := [(S "entries", .loc 2), (S "stands", .loc 3), (S "opened", .loc 4), (S "ordered", .lst (strsV p.names)), (S "own_fields", .loc 5)]
def fldsV (p : Plan) : List V := fieldsG p.fields p.owner p.mult (nodeV p) p.two
structure SigAt (p : Plan) (σ : List Cell) : Prop where
  s1 : σ[1]? = some (.dict (sigD p))
  s2 : σ[2]? = some (.dict (entsL p))
  s3 : σ[3]? = some (.list (strsV p.names))
  s4 : σ[4]? = some (.list [])
  s5 : σ[5]? = some (.list (fldsV p))
theorem lkp_map {l : List String} {f : String → V} {x : String} (h : x ∈ l) : lkp (l.map fun x => (S x, f x)) (S x) = some (f x) := by
  induction l with
  | nil => cases h
  | cons y l ih =>
    rw [List.map_cons]
    have e2 : lkp ((S y, f y) :: l.map fun x => (S x, f x)) (S x) = match sq (S x) (S y) with
      | true => some (f y)
      | false => lkp (l.map fun x => (S x, f x)) (S x) := rfl
    rw [e2, sq_lit]
    cases q : x == y with
    | true => rw [eq_of_beq q]
    | false =>
      refine ih ?_
      rcases List.mem_cons.mp h with rfl | h
      · simp at q
      · exact h
theorem lkp_ents {p : Plan} {x : String} (h : x ∈ p.names) : lkp (entsL p) (S x) = some (itemP p x) := lkp_map h
def numsL (p : Plan) : List (Str × V) := p.nm.map fun x => (S x, .int (p.num x))
def opL (kv iv : V) (c : Nat) : List (Str × V) := [(S "signatures", .obj 630 1), (S "kinds", kv), (S "items", iv), (S "numbers", .loc 7), (S "calls", .loc 9), (S "count", .int c)]
structure OpAt (p : Plan) (kv iv : V) (c : Nat) (σ : List Cell) : Prop where
  o7 : σ[7]? = some (.dict (numsL p))
  o8 : σ[8]? = some (.dict (opL kv iv c))
  o9 : σ[9]? = some (.dict [])
theorem get_ext {σ ρ : List Cell} {i : Nat} {c : Cell} (h : σ[i]? = some c) : (σ ++ ρ)[i]? = some c := by
  rw [List.getElem?_append_left]
  · exact h
  · exact (List.getElem?_eq_some_iff.mp h).1
theorem SigAt.ext {p : Plan} {σ : List Cell} (H : SigAt p σ) (ρ : List Cell) : SigAt p (σ ++ ρ) := ⟨get_ext H.s1, get_ext H.s2, get_ext H.s3, get_ext H.s4, get_ext H.s5⟩
theorem OpAt.ext {p : Plan} {kv iv : V} {c : Nat} {σ : List Cell} (H : OpAt p kv iv c σ) (ρ : List Cell) : OpAt p kv iv c (σ ++ ρ) := ⟨get_ext H.o7, get_ext H.o8, get_ext H.o9⟩
theorem lkp_nums {p : Plan} {x : String} (h : x ∈ p.nm) : lkp (numsL p) (S x) = some (.int (p.num x)) := lkp_map h
theorem strsV_eq (l : List String) : strsV l = l.map fun s => V.str (Str.ofString s) := rfl
theorem fr_tup {σ : List Cell} {n : Nat} {l : List V} (h : V.pls 30 l = true) : frd σ n 9 (.tup l) = some (.tup l) := congrArg (fun b => (cond b (some l) (frL (frd σ n 8) l)).map V.tup) h
theorem fr_lst {σ : List Cell} {n : Nat} {l : List V} (h : V.pls 30 l = true) : frd σ n 9 (.lst l) = some (.lst l) := congrArg (fun b => (cond b (some l) (frL (frd σ n 8) l)).map V.lst) h
theorem lt_of {α : Type} {σ : List Cell} {d : V} {l : List V} {g : List V → α} (e : getL σ d = some l) (h : l.length ≤ 100000) : ltL σ d g = some (g l) := by
  unfold ltL
  rw [e]
  exact grd_of (Nat.ble_eq_true_of_le h)
theorem bt_tup {σ : List Cell} {l : List V} (h : l.length ≤ 100000) : evBui .tuple [.tup l] σ = some (.tup l, σ) := lt_of (σ := σ) (d := .tup l) (g := fun xs => (V.tup xs, σ)) rfl h
theorem bt_list {σ : List Cell} {d : V} {l : List V} (e : getL σ d = some l) (h : l.length ≤ 100000) : evBui .list [d] σ = some (.loc σ.length, σ ++ [.list l]) := lt_of (g := fun xs => (V.loc σ.length, σ ++ [Cell.list xs])) e h
theorem pl_rep {k : Nat} {x : Str} : V.pl k (.str x) = true := by cases k <;> rfl
theorem pl_int {k : Nat} {x : Int} : V.pl k (.int x) = true := by cases k <;> rfl
theorem pl_tup {k : Nat} {l : List V} : V.pl (k + 1) (.tup l) = V.pls k l := rfl
theorem pls_cons {k : Nat} {l : List V} : V.pls k (d :: l) = (d.pl k && V.pls k l) := rfl
theorem pls_nil {k : Nat} : V.pls k [] = true := rfl
theorem pl_bool {k : Nat} {x : Bool} : V.pl k (.bool x) = true := by cases k <;> rfl
theorem pl_lst {k : Nat} {l : List V} : V.pl (k + 1) (.lst l) = V.pls k l := rfl
theorem pls_map {α : Type} {k : Nat} {g : α → V} (h : ∀ a, (g a).pl k = true) : ∀ l : List α, V.pls k (l.map g) = true
  | [] => pls_nil
  | a :: l => by rw [List.map_cons, pls_cons, h a, pls_map h l]; rfl
theorem pls_ints {k : Nat} (l : List Int) : V.pls k (l.map .int) = true := pls_map (fun _ => pl_int) l
theorem pl_row {k : Nat} (r : List Int) : (rowV r).pl (k + 1) = true := pls_ints r
theorem pls_rows {k : Nat} (l : List (List Int)) : V.pls (k + 1) (l.map rowV) = true := pls_map pl_row l
theorem pl_relV {k : Nat} (l : List (List Int)) : (relV l).pl (k + 2) = true := pls_rows l
theorem eqv_ints : ∀ a b : List Int, PyData.eqvAll (V.pys (a.map .int)) (V.pys (b.map .int)) = (a == b)
  | [], [] => rfl
  | [], _ :: _ => rfl
  | _ :: _, [] => rfl
  | x :: xs, y :: ys => congrArg ((x == y) && ·) (eqv_ints xs ys)
theorem veq_row (a b : List Int) : veq (rowV a) (rowV b) = (a == b) := eqv_ints a b
theorem any_rows (a : List Int) : ∀ l : List (List Int), ((l.map rowV).any fun y => veq y (rowV a)) = l.contains a
  | [] => rfl
  | b :: l => by
    rw [List.map_cons, List.any_cons, List.contains_cons, any_rows a l, veq_row]
    congr 1
    rw [Bool.eq_iff_iff]; simp only [beq_iff_eq]; exact eq_comm
theorem any_ints (a : Int) : ∀ l : List Int, ((l.map V.int).any fun y => veq y (.int a)) = l.contains a
  | [] => rfl
  | b :: l => by
    rw [List.map_cons, List.any_cons, List.contains_cons, any_ints a l]
    congr 1
    show (b == a) = (a == b)
    rw [Bool.eq_iff_iff]; simp only [beq_iff_eq]; exact eq_comm
theorem strsOf_strsV : ∀ l : List String, strsOf (strsV l) = some (l.map Str.ofString)
  | [] => rfl
  | x :: r => by
    have := strsOf_strsV r
    simp only [strsV, List.map_cons, strsOf] at this ⊢
    rw [this]; rfl
theorem ofS_contains (x : String) : ∀ l : List String, (l.map Str.ofString).contains (S x) = l.contains x
  | [] => rfl
  | y :: r => by
    rw [List.map_cons, List.contains_cons, List.contains_cons, ofS_contains x r]
    show (Str.ofString x == Str.ofString y || _) = _
    rw [← sq_beq, sq_lit]
theorem ofS_idx (x : String) : ∀ l : List String, (l.map Str.ofString).findIdx (· == S x) = l.findIdx (· == x)
  | [] => rfl
  | y :: r => by
    rw [List.map_cons, List.findIdx_cons, List.findIdx_cons, ofS_idx x r]
    show (bif (Str.ofString y == Str.ofString x) then _ else _) = _
    rw [← sq_beq, sq_lit]
theorem pls_strs {k : Nat} (l : List String) : V.pls k (strsV l) = true := pls_map (fun _ => pl_rep) l
theorem strs_isEmpty {l : List String} : (strsV l).isEmpty = l.isEmpty := by cases l <;> rfl
theorem strs_len {l : List String} : (strsV l).length = l.length := by unfold strsV; simp
theorem strs_any (x : String) : ∀ l : List String, ((strsV l).any fun y => veq y (sv x)) = l.contains x
  | [] => rfl
  | y :: l => by
    show (sq (S y) (S x) || (strsV l).any _) = _
    rw [strs_any x l, sq_lit, List.contains_cons]
    congr 1
    rw [Bool.eq_iff_iff]; simp only [beq_iff_eq]; exact eq_comm
theorem fr_loc {σ : List Cell} {n j : Nat} {l : List V} (e : σ[j]? = some (.list l)) (g : n ≤ j) (h : V.pls 30 l = true) : frd σ n 9 (.loc j) = some (.lst l) := by
  show cond (Nat.blt j n) (some (V.loc j)) ((σ[j]?).bind (frC (frd σ n 8))) = _
  rw [e, show Nat.blt j n = false from Bool.eq_false_iff.mpr fun z => Nat.not_lt.mpr g (Nat.le_of_ble_eq_true z)]
  exact congrArg (fun b => (cond b (some l) (frL (frd σ n 8) l)).map V.lst) h
theorem get_new {σ : List Cell} {c : Cell} : (σ ++ [c])[σ.length]? = some c := by simp
theorem fr_new {σ : List Cell} {l : List V} (h : V.pls 30 l = true) : frd (σ ++ [.list l]) σ.length 9 (.loc σ.length) = some (.lst l) := fr_loc get_new (Nat.le_refl _) h
-- places in a def's tree
def stA (b : List Stmt) (i : Nat) : Stmt := (b[i]?).getD (.Pass ⟨0, 0, 0, 0⟩)
def noE : Expr := .Constant .none 0 ⟨0, 0, 0, 0⟩
def valA : Stmt → Expr
  | .Return (some e) _ => e
  | .Assign _ e _ => e
  | .Expr e _ => e
  | .If e _ _ _ => e
  | .For _ e _ _ _ => e
  | _ => noE
def thenA : Stmt → List Stmt
  | .If _ b _ _ => b
  | .For _ _ b _ _ => b
  | .While _ b _ _ => b
  | _ => []
def tgA : Stmt → Expr
  | .For t _ _ _ _ => t
  | _ => noE
def argA (i : Nat) : Expr → Expr
  | .Call _ es _ _ => (es[i]?).getD noE
  | .Tuple es _ _ => (es[i]?).getD noE
  | .BoolOp _ es _ => (es[i]?).getD noE
  | .List es _ => (es[i]?).getD noE
  | .BinOp a _ b _ => match i with
    | 0 => a
    | _ => b
  | .Compare a _ bs _ => match i with
    | 0 => a
    | i + 1 => (bs[i]?).getD noE
  | .UnaryOp _ e _ => e
  | .IfExp t a b _ => match i with
    | 0 => t
    | 1 => a
    | _ => b
  | .Subscript a b _ => match i with
    | 0 => a
    | _ => b
  | .Attribute a _ _ => a
  | .Dict _ es _ => (es[i]?).getD noE
  | _ => noE
structure Cmp where
  elt : Expr
  tgt : Expr
  iter : Expr
  ifs : List Expr
  tgt2 : Expr
  iter2 : Expr
  ifs2 : List Expr
  sc : Scope
def cmA : Expr → Cmp
  | .ListComp e [⟨t, i, f, _⟩] s _ => ⟨e, t, i, f, noE, noE, [], s⟩
  | .ListComp e [⟨t, i, f, _⟩, ⟨t2, i2, f2, _⟩] s _ => ⟨e, t, i, f, t2, i2, f2, s⟩
  | _ => ⟨noE, noE, noE, [], noE, noE, [], noSc⟩
abbrev relE (i : Nat) : V := .tup [sv "rel", .int i]
abbrev varE (s : String) : V := .tup [sv "var", sv s]
abbrev unE (a b : V) : V := .tup [sv "union", a, b]
abbrev meE (a b : V) : V := .tup [sv "meet", a, b]
abbrev ahE (a b : V) : V := .tup [sv "ahead", a, b]
abbrev prE (a b : V) : V := .tup [sv "product", a, b]
abbrev joE (a b : V) : V := .tup [sv "join", a, b]
abbrev inE (a b : V) : V := .tup [sv "in", a, b]
abbrev manyE (m : String) (a : V) : V := .tup [sv m, a]
abbrev allE (s : String) (d f : V) : V := .tup [sv "all", .tup [.tup [sv s, d]], f]
abbrev andE (fs : List V) : V := .tup [sv "and", .tup fs]
theorem memN_range {n : Nat} : memN n (List.range n) = false := by
  unfold memN
  rw [nbeq_inst]
  exact Bool.eq_false_iff.mpr fun h => Nat.lt_irrefl n (List.mem_range.mp (List.elem_iff.mp h))
theorem app_new {σ : List Cell} {xs : List V} {d : V} (l : xs.length ≤ 50000) : evMeth (List.range σ.length) .append (.loc σ.length) [d] (σ ++ [.list xs]) = some (.none, σ ++ [.list (xs ++ [d])]) := by
  show cond (memN σ.length (List.range σ.length)) none ((lcell (σ ++ [Cell.list xs]) σ.length).bind _) = _
  rw [memN_range]
  unfold lcell
  rw [get_new]
  show cond (Nat.ble xs.length 50000) (some (V.none, (σ ++ [Cell.list xs]).set σ.length (Cell.list (xs ++ [d])))) none = _
  rw [Nat.ble_eq_true_of_le l, List.set_append_right _ _ (Nat.le_refl _), Nat.sub_self]
  rfl
theorem ty_new {σ : List Cell} {xs : List V} : tyOk (σ ++ [.list xs]) (.loc σ.length) .append = true := by
  show (!false && (lcell (σ ++ [Cell.list xs]) σ.length).isSome) = true
  unfold lcell
  rw [get_new]
  rfl
theorem in_of {σ : List Cell} {n : Nat} {ds : List (Str × V)} {x : Str} {v : V} (h : σ[n]? = some (.dict ds)) (l : lkp ds x = some v) : evCop .In (.str x) (.loc n) σ = some true := by
  show inD x (.loc n) σ = _
  unfold inD
  rw [gd_of h]
  show some (lkp ds x).isSome = _
  rw [l]
  rfl
theorem in_strs (σ : List Cell) {x : String} {l : List String} {b : Bool} (h : l.contains x = b) : evCop .In (sv x) (.tup (strsV l)) σ = some b := by
  show grd (V.pls 40 (strsV l) && true) _ = _
  rw [pls_strs]
  exact congrArg some ((strs_any x l).trans h)
theorem eq_strs (σ : List Cell) {x y : String} {b : Bool} (h : (x == y) = b) : evCop .Eq (sv x) (sv y) σ = some b := congrArg some ((sq_lit x y).trans h)
theorem ne_strs (σ : List Cell) {x y : String} {b : Bool} (h : (x == y) = b) : evCop .NotEq (sv x) (sv y) σ = some (!b) := congrArg (fun b => some (!b)) ((sq_lit x y).trans h)
theorem con_of {C : Cx} {K : Nat} {F : FnT} {q : Qu} {ds : List V} {σ : List Cell} {v : V} {P : Prop → Prop} (p : ∀ E, E → P E) (e : evFn (ev C tab K) [] F q ds σ (fun _ d s => d = v ∧ s = σ) = P (v = v ∧ σ = σ)) : Con C tab K F ds σ v σ :=
  run_ok (lk := []) (q := q) (e.mpr (p _ ⟨rfl, rfl⟩))
theorem rm_put (x : Str) (d : V) (m : M) : rm x ((x, d) :: m) = rm x m := List.filter_cons_of_neg (fun h => Bool.false_ne_true ((congrArg not (sq_self x)).symm.trans h))
theorem rm_rm (x : Str) (m : M) : rm x (rm x m) = rm x m := (List.filter_filter).trans (congrArg (m.filter ·) (funext fun p => Bool.and_self _))
theorem tgt_name {nk : Nk} {y : Str} {p : Pos} {d : V} {m : M} (hs : stoOk nk y = true) : tgtN nk (.Name y p) d m = some ((y, d) :: rm y m) := congrArg (fun b => cond b (some ((y, d) :: rm y m)) none) hs
abbrev TurnsP (r : Ev) (lk : List Nat) (nk : Nk) (elt tgt : Expr) (ifs : List Expr) (xs : List V) (m : M) (σ : List Cell) (vs : List V) : Prop := evTurns r lk nk true elt tgt ifs xs [] m σ [] (AccIs vs σ)
abbrev NestP (r : Ev) (lk : List Nat) (nk : Nk) (elt tgt tgt2 iter2 : Expr) (ifs ifs2 : List Expr) (xs : List V) (m : M) (σ : List Cell) (vs : List V) : Prop := evNest r lk nk true elt tgt tgt2 iter2 ifs ifs2 xs [] m σ [] (AccIs vs σ)
abbrev ForP (r : Ev) (lk : List Nat) (nk : Nk) (tgt : Expr) (body : List Stmt) (xs : List V) (m : M) (σ : List Cell) (f : Fl) (m' : M) (σ' : List Cell) : Prop := evFor r lk nk true tgt body xs [] m σ (FlIs f m' σ')
abbrev To1 {α : Type} (R : Qu → (Qu → α → List Cell → Prop) → Prop) (a : α) (σ : List Cell) : Prop := ∀ k, k [] a σ → ∃ q, R q k
section
variable {r : Ev} {lk : List Nat} {nk : Nk} {σ : List Cell}
theorem turns_of {α : Type} {elt : Expr} {ifs : List Expr} {y : Str} {p : Pos} {g : α → V} {f : α → Option V} {m0 : M} {J : M → Prop} (hJ : ∀ m, J m → rm y m = m0) (hv : ∀ x : α, J ((y, g x) :: m0)) (hs : stoOk nk y = true) {xs : List α} : ∀ {q : Qu} {m : M} {acc : List V} {k : KT}, J m → acc.length + xs.length ≤ 100000 →
    (∀ x ∈ xs, To1 (fun q => evTurn r lk nk elt ifs q ((y, g x) :: m0) σ) (f x) σ) → (∀ q m, J m → k q m (acc ++ xs.filterMap f) σ) → evTurns r lk nk true elt (.Name y p) ifs (xs.map g) q m σ acc k := by
  induction xs with
  | nil =>
    intro q m acc k hm _ _ hk
    have := hk q m hm
    rw [List.filterMap_nil, List.append_nil] at this
    exact this
  | cons x xs ih =>
    intro q m acc k hm l h hk
    show opt (tgtN nk (.Name y p) (g x) m) _
    rw [tgt_name hs, hJ m hm]
    refine h x (.head _) (fun q o s => chk (Nat.ble acc.length 100000) (evTurns r lk nk true elt (.Name y p) ifs (xs.map g) q ((y, g x) :: m0) s (snocO acc o) k)) ?_
    rw [Nat.ble_eq_true_of_le (Nat.le_trans (Nat.le_add_right _ _) l)]
    have e : ∀ o, (snocO acc o).length + xs.length ≤ acc.length + (xs.length + 1) ∧ snocO acc o ++ xs.filterMap f = acc ++ (o.toList ++ xs.filterMap f) := fun o => by
      cases o with
      | none => exact ⟨Nat.add_le_add_left (Nat.le_succ _) _, rfl⟩
      | some v => exact ⟨by show (acc ++ [v]).length + _ ≤ _; rw [List.length_append, Nat.add_assoc]; exact Nat.le_of_eq (congrArg _ (Nat.add_comm _ _)), List.append_assoc ..⟩
    refine ih (hv x) (Nat.le_trans (e _).1 l) (fun z hz => h z (.tail _ hz)) fun q m e' => ?_
    rw [(e _).2]
    have := hk q m e'
    rw [List.filterMap_cons] at this
    cases e2 : f x <;> rw [e2] at this <;> exact this
theorem comp_of {α : Type} (c : Cmp) {y : Str} {m0 : M} {xs : List α} (g : α → V) (f : α → Option V) (ht : nmA c.tgt = some y) (hs : stoOk c.sc.names y = true) (hm : rm y m0 = m0) (l : xs.length ≤ 100000) (h : ∀ x ∈ xs, To1 (fun q => evTurn r lk c.sc.names c.elt c.ifs q ((y, g x) :: m0) σ) (f x) σ) : TurnsP r lk c.sc.names c.elt c.tgt c.ifs (xs.map g) m0 σ (xs.filterMap f) := by
  obtain ⟨p, e⟩ := nmA_ok ht
  rw [e]
  exact turns_of (J := fun m => rm y m = m0) (fun _ h => h) (fun x => (rm_put ..).trans hm) hs hm (Nat.le_trans (Nat.le_of_eq (Nat.zero_add _)) l) h fun _ m _ => ⟨rfl, rfl⟩
theorem comp_map {α : Type} (c : Cmp) {y : Str} {m0 : M} {xs : List α} (g f : α → V) (ht : nmA c.tgt = some y) (hs : stoOk c.sc.names y = true) (hm : rm y m0 = m0) (l : xs.length ≤ 100000) (h : ∀ x ∈ xs, To1 (fun q => evTurn r lk c.sc.names c.elt c.ifs q ((y, g x) :: m0) σ) (some (f x)) σ) : TurnsP r lk c.sc.names c.elt c.tgt c.ifs (xs.map g) m0 σ (xs.map f) := by
  have := comp_of c g (fun x => some (f x)) ht hs hm l h
  rwa [show (fun x => some (f x)) = some ∘ f from rfl, List.filterMap_eq_map] at this
theorem fm_fil {α : Type} (t : α → Bool) (f : α → V) (xs : List α) : xs.filterMap (fun x => cond (t x) (some (f x)) none) = (xs.filter t).map f := by
  induction xs with
  | nil => rfl
  | cons x xs ih =>
    rw [List.filterMap_cons, List.filter_cons]
    cases t x with
    | true => exact congrArg (f x :: ·) ih
    | false => exact ih
theorem comp_fil {α : Type} (c : Cmp) {y : Str} {m0 : M} {xs : List α} (g f : α → V) (t : α → Bool) (ht : nmA c.tgt = some y) (hs : stoOk c.sc.names y = true) (hm : rm y m0 = m0) (l : xs.length ≤ 100000) (h : ∀ x ∈ xs, To1 (fun q => evTurn r lk c.sc.names c.elt c.ifs q ((y, g x) :: m0) σ) (cond (t x) (some (f x)) none) σ) : TurnsP r lk c.sc.names c.elt c.tgt c.ifs (xs.map g) m0 σ ((xs.filter t).map f) :=
  fm_fil t f xs ▸ comp_of c g _ ht hs hm l h
theorem rm_ne {x y : Str} {v : V} {m : M} (h : sq x y = false) : rm y ((x, v) :: m) = (x, v) :: rm y m := List.filter_cons_of_pos (congrArg not h)
inductive NestM (y y2 : Str) (m0 : M) : M → Prop
  | a : NestM y y2 m0 m0
  | b (v : V) : NestM y y2 m0 ((y, v) :: m0)
  | c (w v : V) : NestM y y2 m0 ((y2, w) :: (y, v) :: m0)
  | d (w v : V) : NestM y y2 m0 ((y, v) :: (y2, w) :: m0)
inductive NestT (y y2 : Str) (m0 : M) (v : V) : M → Prop
  | a : NestT y y2 m0 v ((y, v) :: m0)
  | b (w : V) : NestT y y2 m0 v ((y, v) :: (y2, w) :: m0)
theorem NestM.turn {y y2 : Str} {m0 m : M} (h : NestM y y2 m0 m) (n : sq y2 y = false) (e : rm y m0 = m0) (v : V) : NestT y y2 m0 v ((y, v) :: rm y m) := by
  cases h with
  | a => rw [e]; exact .a
  | b w => rw [rm_put, e]; exact .a
  | c w u => rw [rm_ne n, rm_put, e]; exact .b w
  | d w u => rw [rm_put, rm_ne n, e]; exact .b w
theorem NestT.drop {y y2 : Str} {m0 m : M} {v : V} (h : NestT y y2 m0 v m) (n : sq y y2 = false) (e : rm y2 m0 = m0) : rm y2 m = (y, v) :: m0 := by
  cases h with
  | a => rw [rm_ne n, e]
  | b w => rw [rm_ne n, rm_put, e]
theorem nest_of {α β : Type} {elt iter2 : Expr} {ifs ifs2 : List Expr} {y y2 : Str} {p p2 : Pos} {g : α → V} {g2 : β → V} {f : α → β → Option V} {ys : α → List β} {lks : α → List Nat} {m0 : M} (n : sq y2 y = false) (n2 : sq y y2 = false) (e : rm y m0 = m0) (e2 : rm y2 m0 = m0) (hs : stoOk nk y = true) (hs2 : stoOk nk y2 = true) {xs : List α} : ∀ {q : Qu} {m : M} {acc : List V} {k : KT}, NestM y y2 m0 m → acc.length + (xs.flatMap ys).length ≤ 100000 →
    (∀ x ∈ xs, ∀ m, NestT y y2 m0 (g x) m → To1 (fun q => evTurn2 r lk nk (.Name y2 p2) iter2 ifs q m σ) (some ((ys x).map g2, lks x)) σ) →
    (∀ x ∈ xs, ∀ z ∈ ys x, To1 (fun q => evTurn r (lks x ++ lk) nk elt ifs2 q ((y2, g2 z) :: (y, g x) :: m0) σ) (f x z) σ) → (∀ q m, k q m (acc ++ xs.flatMap fun x => (ys x).filterMap (f x)) σ) → evNest r lk nk true elt (.Name y p) (.Name y2 p2) iter2 ifs ifs2 (xs.map g) q m σ acc k := by
  induction xs with
  | nil =>
    intro q m acc k _ _ _ _ hk
    have := hk q m
    rw [List.flatMap_nil, List.append_nil] at this
    exact this
  | cons x xs ih =>
    intro q m acc k hm l h h2 hk
    rw [List.flatMap_cons, List.length_append] at l
    show opt (tgtN nk (.Name y p) (g x) m) _
    rw [tgt_name hs]
    have ht := hm.turn n e (g x)
    have hd := ht.drop n2 e2
    refine h x (.head _) _ ht (fun q o s => alt o (fun t => evTurns r (t.2 ++ lk) nk true elt (.Name y2 p2) ifs2 t.1 q _ s acc fun q m acc σ => evNest r lk nk true elt (.Name y p) (.Name y2 p2) iter2 ifs ifs2 (xs.map g) q m σ acc k) (evNest r lk nk true elt (.Name y p) (.Name y2 p2) iter2 ifs ifs2 (xs.map g) q _ s acc k)) ?_
    refine turns_of (J := fun m' => rm y2 m' = (y, g x) :: m0 ∧ NestM y y2 m0 m') (fun _ h => h.1) (fun z => ⟨?_, .c _ _⟩) hs2 ⟨hd, ?_⟩ ?_ (h2 x (.head _)) fun q m' hm' => ih hm'.2 ?_ (fun z hz => h z (.tail _ hz)) (fun z hz => h2 z (.tail _ hz)) fun q m => ?_
    · rw [rm_put, rm_ne n2, e2]
    · generalize (y, g x) :: rm y m = m' at ht
      cases ht with
      | a => exact .b _
      | b w => exact .d w _
    · exact Nat.le_trans (Nat.add_le_add_left (Nat.le_add_right ..) _) l
    · rw [List.length_append, Nat.add_assoc]
      exact Nat.le_trans (Nat.add_le_add_left (Nat.add_le_add_right (List.length_filterMap_le ..) _) _) l
    · have := hk q m
      rw [List.flatMap_cons, ← List.append_assoc] at this
      exact this
theorem NestP_of {α β : Type} (c : Cmp) {y y2 : Str} {m0 : M} {xs : List α} (g : α → V) (g2 : β → V) (f : α → β → Option V) (ys : α → List β) (lks : α → List Nat) (ht : nmA c.tgt = some y) (ht2 : nmA c.tgt2 = some y2) (n : sq y2 y = false) (n2 : sq y y2 = false) (e : rm y m0 = m0) (e2 : rm y2 m0 = m0) (hs : stoOk c.sc.names y = true) (hs2 : stoOk c.sc.names y2 = true) (l : (xs.flatMap ys).length ≤ 100000)
    (h : ∀ x ∈ xs, ∀ m, NestT y y2 m0 (g x) m → To1 (fun q => evTurn2 r lk c.sc.names c.tgt2 c.iter2 c.ifs q m σ) (some ((ys x).map g2, lks x)) σ) (h2 : ∀ x ∈ xs, ∀ z ∈ ys x, To1 (fun q => evTurn r (lks x ++ lk) c.sc.names c.elt c.ifs2 q ((y2, g2 z) :: (y, g x) :: m0) σ) (f x z) σ) :
    NestP r lk c.sc.names c.elt c.tgt c.tgt2 c.iter2 c.ifs c.ifs2 (xs.map g) m0 σ (xs.flatMap fun x => (ys x).filterMap (f x)) := by
  obtain ⟨p, e⟩ := nmA_ok ht
  obtain ⟨p2, e'⟩ := nmA_ok ht2
  rw [e'] at h ⊢
  rw [e]
  exact nest_of n n2 ‹_› e2 hs hs2 .a (Nat.le_trans (Nat.le_of_eq (Nat.zero_add _)) l) h h2 fun _ _ => ⟨rfl, rfl⟩
abbrev To2 (R : Qu → KX → Prop) (f : Fl) (m : M) (σ : List Cell) : Prop := ∀ k, k [] f m σ → ∃ q, R q k
theorem turn2_of {tgt2 iter2 : Expr} {ifs : List Expr} {q : Qu} {m : M} {o : Option (List V × List Nat)} {P : Prop → Prop} (p : ∀ E, E → P E) (e : ∀ k, evTurn2 r lk nk tgt2 iter2 ifs q m σ k = P (k [] o σ)) : To1 (fun q => evTurn2 r lk nk tgt2 iter2 ifs q m σ) o σ := fun k hk => ⟨q, (e k).mpr (p _ hk)⟩
theorem body_of {body : List Stmt} {q : Qu} {m m' : M} {σ' : List Cell} {f : Fl} {P : Prop → Prop} (p : ∀ E, E → P E) (e : ∀ k, r.x lk nk body q m σ k = P (k [] f m' σ')) : To2 (fun q => r.x lk nk body q m σ) f m' σ' := fun k hk => ⟨q, (e k).mpr (p _ hk)⟩
abbrev Seg (r : Ev) (lk : List Nat) (nk : Nk) (i : Nat) (body : List Stmt) (m : M) (σ : List Cell) : Qu → KX → Prop := fun q k => r.x lk nk body (.m i :: q) m σ k
theorem seg_of {i : Nat} {body : List Stmt} {q : Qu} {m m' : M} {σ' : List Cell} {f : Fl} {P : Prop → Prop} (p : ∀ E, E → P E) (e : ∀ k, r.x lk nk body (.m i :: q) m σ k = P (k [] f m' σ')) : To2 (Seg r lk nk i body m σ) f m' σ' := fun k hk => ⟨q, (e k).mpr (p _ hk)⟩
theorem seg_seq {i : Nat} {R : Qu → KX → Prop} {body : List Stmt} {q1 : Qu → Qu} {m m' : M} {σ' : List Cell} {f : Fl} {P : Prop → Prop} (t : To2 R f m' σ') (p : ∀ E, E → P E) (e : ∀ k q, r.x lk nk body (.m i :: q1 q) m σ k = P (R q k)) : To2 (Seg r lk nk i body m σ) f m' σ' := fun k hk => (t k hk).elim fun q h => ⟨q1 q, (e k q).mpr (p _ h)⟩
abbrev Fin (v : V) (σ : List Cell) : KX := retK (stillK σ fun _ d s => d = v ∧ s = σ)
theorem con_seq {C : Cx} {K : Nat} {F : FnT} {ds : List V} {v : V} {R : Qu → KX → Prop} {q1 : Qu → Qu} {m : M} {σ' : List Cell} {P : Prop → Prop} (t : To2 R (.ret v) m σ') (f : Fin v σ [] (.ret v) m σ') (p : ∀ E, E → P E) (e : ∀ q, evFn (ev C tab K) [] F (q1 q) ds σ (fun _ d s => d = v ∧ s = σ) = P (R q (Fin v σ))) : Con C tab K F ds σ v σ := (t _ f).elim fun q h => run_ok (lk := []) (q := q1 q) ((e q).mpr (p _ h))
theorem for_ex {α : Type} {body : List Stmt} {y : Str} {p : Pos} {g : α → V} {I : List α → M → List Cell → Prop} {E : Fl → M → List Cell → Prop} (hs : stoOk nk y = true) (fin : ∀ m σ, I [] m σ → E .next m σ) (turn : ∀ x xs m σ, I (x :: xs) m σ → ∃ f m' σ', To2 (fun q => r.x lk nk body q ((y, g x) :: rm y m) σ) f m' σ' ∧ match f with
    | .next => I xs m' σ'
    | .ret d => E (.ret d) m' σ'
    | _ => False) (xs : List α) : ∀ {m : M} {σ : List Cell}, I xs m σ → ∃ f m' σ', E f m' σ' ∧ ∀ q, evFor r lk nk true (.Name y p) body (xs.map g) q m σ (FlIs f m' σ') := by
  induction xs with
  | nil => exact fun h => ⟨_, _, _, fin _ _ h, fun _ => ⟨rfl, rfl, rfl⟩⟩
  | cons x xs ih =>
    intro m σ h
    obtain ⟨f, m', σ', t, h⟩ := turn x xs m σ h
    have go : ∀ {f₁ m₁ σ₁}, (∀ q, (match f with
        | .next => evFor r lk nk true (.Name y p) body (xs.map g) q m' σ' (FlIs f₁ m₁ σ₁)
        | .cont => evFor r lk nk true (.Name y p) body (xs.map g) q m' σ' (FlIs f₁ m₁ σ₁)
        | .brk => FlIs f₁ m₁ σ₁ q .next m' σ'
        | .ret d => FlIs f₁ m₁ σ₁ q (.ret d) m' σ')) → ∀ q, evFor r lk nk true (.Name y p) body ((x :: xs).map g) q m σ (FlIs f₁ m₁ σ₁) := fun k q => by
      show opt (tgtN nk (.Name y p) (g x) m) _
      rw [tgt_name hs]
      exact t _ (k [])
    cases f with
    | next =>
      obtain ⟨f₁, m₁, σ₁, e, k⟩ := ih h
      exact ⟨f₁, m₁, σ₁, e, go k⟩
    | ret d => exact ⟨_, _, _, h, go fun _ => ⟨rfl, rfl, rfl⟩⟩
    | _ => exact h.elim
theorem turn_of {elt : Expr} {ifs : List Expr} {q : Qu} {m : M} {o : Option V} {P : Prop → Prop} (p : ∀ E, E → P E) (e : ∀ k, evTurn r lk nk elt ifs q m σ k = P (k [] o σ)) : To1 (fun q => evTurn r lk nk elt ifs q m σ) o σ := fun k hk => ⟨q, (e k).mpr (p _ hk)⟩
end
section
variable {C : Cx} {σ : List Cell} {p : Plan} {x : String}
theorem kids_len (k : Nat) : (kidsL k).length ≤ 2 := by unfold kidsL; split <;> simp
theorem names_len {p : Plan} : (strsV p.names).length ≤ 100000 := by
  have := kids_len p.kids
  unfold strsV Plan.names
  rw [List.length_map, List.length_append, List.length_append]
  split <;> simp <;> omega
theorem sup_len {k : Nat} : (strsV (supG k x)).length ≤ 100000 := by
  unfold strsV supG
  rw [List.length_map]
  split
  · rw [List.length_take]; simp; omega
  · simp
theorem s_parent (H : SigAt p σ) (hx : x ∈ p.names) : Con C tab 20 m_Signatures_parent [.obj 630 1, sv x] σ (sv (parS x)) σ :=
  con_of (q := [.k 559027 (sigD p), .v 559033 (itemP p x)]) (fun _ e => ob (dc_of H.s1) (ob (ix_of H.s2 (lkp_ents hx)) e)) (by kernel_rfl)
theorem s_mult (H : SigAt p σ) (hx : x ∈ p.names) : Con C tab 20 m_Signatures_mult [.obj 630 1, sv x] σ (sv (muS p x)) σ :=
  con_of (q := [.k 595027 (sigD p), .v 595033 (itemP p x)]) (fun _ e => ob (dc_of H.s1) (ob (ix_of H.s2 (lkp_ents hx)) e)) (by kernel_rfl)
theorem s_is_abstract (H : SigAt p σ) (hx : x ∈ p.names) : Con C tab 20 m_Signatures_is_abstract [.obj 630 1, sv x] σ (.bool (x == "A" && p.ab)) σ :=
  con_of (q := [.k 592027 (sigD p), .v 592033 (itemP p x)]) (fun _ e => ob (dc_of H.s1) (ob (ix_of H.s2 (lkp_ents hx)) e)) (by kernel_rfl)
theorem s_supers (H : SigAt p σ) (hx : x ∈ p.names) : Con C tab 20 m_Signatures_supers [.obj 630 1, sv x] σ (.tup (strsV (supG p.part x))) σ :=
  con_of (q := [.k 562033 (sigD p), .v 562039 (itemP p x), .w 562043 (.tup (strsV (supG p.part x))) σ, .v 0 (.tup (strsV (supG p.part x)))]) (fun _ e => ob (dc_of H.s1) (ob (ix_of H.s2 (lkp_ents hx)) (ob (bt_tup (σ := σ) (l := strsV (supG p.part x)) sup_len) (ob (fr_tup (σ := σ) (n := σ.length) (pls_strs (supG p.part x))) e)))) (by kernel_rfl)
theorem s_names (H : SigAt p σ) : Con C tab 20 m_Signatures_names [.obj 630 1] σ (.lst (strsV p.names)) σ :=
  con_of (q := [.k 550032 (sigD p), .w 550033 (.loc σ.length) (σ ++ [.list (strsV p.names)]), .v 0 (.lst (strsV p.names))]) (fun _ e => ob (dc_of H.s1) (ob (bt_list (σ := σ) (d := .lst (strsV p.names)) rfl names_len) (ob (fr_new (σ := σ) (pls_strs p.names)) e))) (by kernel_rfl)
end
section
variable {C : Cx} {σ : List Cell} {p : Plan} {x : String}
theorem names_len' : p.names.length ≤ 100000 := strs_len ▸ names_len (p := p)
abbrev chC : Cmp := cmA (valA (stA m_Signatures_children.body 0))
def chS (p : Plan) (x : String) : List V := p.names.filterMap fun y => cond (parS y == x) (some (sv y)) none
theorem pls_fm {α : Type} {k : Nat} {f : α → Option V} (h : ∀ a d, f a = some d → d.pl k = true) (l : List α) : V.pls k (l.filterMap f) = true :=
  List.all_eq_true.mpr fun d m => let ⟨a, _, e⟩ := List.mem_filterMap.mp m; h a d e
theorem chS_pl : V.pls 30 (chS p x) = true := pls_fm (fun a d e => (cnd_ok e).2 |> fun e => Option.some.inj e ▸ pl_rep) _
theorem s_children (H : SigAt p σ) (hx : x ∈ p.names) : Con C tab 60 m_Signatures_children [.obj 630 1, sv x] σ (.lst (chS p x)) σ :=
  con_of (q := [.k 568046 (sigD p), .l 568046 (strsV p.names), .l 568077 (chS p x), .v 0 (.lst (chS p x))])
    (fun _ e => ob (dc_of H.s1) (ob (gl_of H.s3) (ob (comp_of (σ := σ) (r := ev C tab 58) (lk := [3] ++ List.range σ.length) chC (m0 := [(S "self", .obj 630 1), (S "name", sv x)]) (y := S "other") (xs := p.names) sv (fun y => cond (parS y == x) (some (sv y)) none) (by kernel_rfl) (by kernel_rfl) (by kernel_rfl) names_len' fun y hy => by
      cases h : parS y == x with
      | true => exact turn_of (q := [.k 568068 (sigD p), .c 568068 20 (sv (parS y)), .b 568076 true]) (fun _ e => ob (dc_of H.s1) (ob (s_parent (C := C) H hy) (ob (eq_strs σ h) e))) (fun k => by kernel_rfl)
      | false => exact turn_of (q := [.k 568068 (sigD p), .c 568068 20 (sv (parS y)), .b 568076 false]) (fun _ e => ob (dc_of H.s1) (ob (s_parent (C := C) H hy) (ob (eq_strs σ h) e))) (fun k => by kernel_rfl)) (ob (fr_lst (σ := σ) (n := σ.length) (chS_pl (p := p) (x := x))) e)))) (by kernel_rfl)
end
section
variable {C : Cx} {σ : List Cell} {p : Plan} {x : String} {kv iv : V} {c : Nat}
theorem i_rel (O : OpAt p kv iv c σ) (hx : x ∈ p.nm) : Con C tab 20 f_relation [.obj 463 8, sv x] σ (relE (p.num x)) σ :=
  con_of (q := [.k 15033 (opL kv iv c), .v 15039 (.int (p.num x))]) (fun _ e => ob (dc_of O.o8) (ob (ix_of O.o7 (lkp_nums hx)) e)) (by kernel_rfl)
theorem o_rel (O : OpAt p kv iv c σ) (hx : x ∈ p.nm) : Con C tab 20 m_Names_rel [.obj 463 8, sv x] σ (relE (p.num x)) σ :=
  con_of (q := [.k 114035 (opL kv iv c), .v 114041 (.int (p.num x))]) (fun _ e => ob (dc_of O.o8) (ob (ix_of O.o7 (lkp_nums hx)) e)) (by kernel_rfl)
theorem names_nm (h : x ∈ p.names) : x ∈ p.nm := by unfold Plan.nm; exact List.mem_append_left _ h
theorem i_each (O : OpAt p kv iv c σ) (hx : x ∈ p.nm) (f : V) (hf : f.pl 30 = true) : Con C tab 40 f_for_each [.obj 463 8, sv x, f] σ (allE "this" (relE (p.num x)) f) σ :=
  con_of (q := [.c 17051 20 (relE (p.num x)), .v 0 (allE "this" (relE (p.num x)) f)]) (fun _ e => ob (i_rel (C := C) O hx) (ob (fr_tup (σ := σ) (n := σ.length) (l := [sv "all", .tup [.tup [sv "this", relE (p.num x)]], f]) (by simp [pls_cons, pls_nil, pl_tup, pl_rep, pl_int, hf])) e)) (by kernel_rfl)
theorem s_has (H : SigAt p σ) (hx : x ∈ p.names) : Con C tab 20 m_Signatures_has [.obj 630 1, sv x] σ (.bool true) σ :=
  con_of (q := [.k 553035 (sigD p), .b 553035 true]) (fun _ e => ob (dc_of H.s1) (ob (in_of H.s2 (lkp_ents hx)) e)) (by kernel_rfl)
end
abbrev bas (fd : Cell) (p : Plan) (c : Nat) (τ : List Cell) : List Cell := fd :: .dict (sigD p) :: .dict (entsL p) :: .list (strsV p.names) :: .list [] :: .list (fldsV p) :: .list (strsV p.names) :: .dict (numsL p) :: .dict (opL .none (.lst (itemsL p)) c) :: .dict [] :: τ
section
variable {C : Cx} {σ : List Cell} {x s : String} {plan : V} {c : Int}
theorem l_parent : Con C tab 20 f__law_parent [plan, sv x] σ (sv (parS x)) σ := by
  unfold parS
  cases h : ["C", "D"].contains x with
  | true => exact con_of (q := [.b 624036 true]) (fun _ e => ob (in_strs σ h) e) (by kernel_rfl)
  | false => exact con_of (q := [.b 624036 false]) (fun _ e => ob (in_strs σ h) e) (by kernel_rfl)
def manyB (s : String) (c : Int) : Bool := cond (s == "no") (c == 0) (["", "set"].contains s || ((s == "some" && decide (0 < c)) || ((s == "one" && c == 1) || (s == "lone" && decide (c < 2)))))
abbrev ManyS (s : String) : Prop := s = "no" ∨ s = "" ∨ s = "set" ∨ s = "some" ∨ s = "one" ∨ s = "lone"
theorem l_many (hs : ManyS s) : Con C tab 12 f__law_many [sv s, .int c] σ (.bool (manyB s c)) σ := by
  rcases hs with rfl | rfl | rfl | rfl | rfl | rfl
  · exact con_of (q := []) (fun _ e => e) (by kernel_rfl)
  · exact con_of (q := []) (fun _ e => e) (by kernel_rfl)
  · exact con_of (q := []) (fun _ e => e) (by kernel_rfl)
  · show Con C tab 12 _ _ σ (.bool (decide (0 < c) || false)) σ
    cases h : decide (0 < c) with
    | true => exact con_of (q := [.b 661062 true]) (fun _ e => (ob (congrArg some h) e)) (by kernel_rfl)
    | false => exact con_of (q := [.b 661062 false]) (fun _ e => (ob (congrArg some h) e)) (by kernel_rfl)
  · show Con C tab 12 _ _ σ (.bool ((c == 1) || false)) σ
    cases h : c == 1 with
    | true => exact con_of (q := [.b 661095 true]) (fun _ e => (ob (congrArg some h) e)) (by kernel_rfl)
    | false => exact con_of (q := [.b 661095 false]) (fun _ e => (ob (congrArg some h) e)) (by kernel_rfl)
  · show Con C tab 12 _ _ σ (.bool (decide (c < 2))) σ
    cases h : decide (c < 2) with
    | true => exact con_of (q := [.b 661128 true]) (fun _ e => (ob (congrArg some h) e)) (by kernel_rfl)
    | false => exact con_of (q := [.b 661128 false]) (fun _ e => (ob (congrArg some h) e)) (by kernel_rfl)
theorem slc_sup {k : Nat} (hk : k ≤ 2) : slcR σ none (some k) (.tup (strsV ["A", "B"])) = some (.tup (strsV (["A", "B"].take k))) := by
  match k, hk with
  | 0, _ => rfl
  | 1, _ => rfl
  | 2, _ => rfl
theorem l_supers {p : Plan} (hk : p.part ≤ 2) : Con C tab 20 f__law_supers [planV p, sv x] σ (.tup (strsV (supG p.part x))) σ := by
  unfold supG
  cases h : x == "E" with
  | true => exact con_of (q := [.b 626028 false, .v 626059 (.tup (strsV (["A", "B"].take p.part))), .v 0 (.tup (strsV (["A", "B"].take p.part)))]) (fun _ e => ob (ne_strs σ h) (ob (slc_sup (σ := σ) hk) (ob (fr_tup (σ := σ) (n := σ.length) (pls_strs (List.take p.part ["A", "B"]))) e))) (by kernel_rfl)
  | false => exact con_of (q := [.b 626028 true]) (fun _ e => ob (ne_strs σ h) e) (by kernel_rfl)
theorem idx_of {nm : List String} (h : nm.contains x = true) (l : nm.length ≤ 50000) {lk : List Nat} : evMeth lk .index (.lst (strsV nm)) [sv x] σ = some (.int (nm.findIdx (· == x) : Nat), σ) := by
  show (strsOf (strsV nm)).bind (fun ss => grd (ss.contains (S x) && Nat.ble ss.length 50000) (V.int ((ss.findIdx (· == S x) : Nat) : Int), σ)) = _
  rw [strsOf_strsV]
  show grd ((nm.map Str.ofString).contains (S x) && Nat.ble (nm.map Str.ofString).length 50000) (V.int (((nm.map Str.ofString).findIdx (· == S x) : Nat) : Int), σ) = _
  rw [ofS_contains, h, List.length_map, Nat.ble_eq_true_of_le l, ofS_idx]
  rfl
theorem seq_nat {i n : Nat} (l : i < n) : seqIndex? i n = some i := by
  unfold seqIndex?
  rw [if_neg (Int.not_lt.mpr (Int.natCast_nonneg i))]
  exact if_pos (Bool.and_eq_true_iff.mpr ⟨decide_eq_true (Int.natCast_nonneg i), decide_eq_true (Int.ofNat_lt.mpr l)⟩)
theorem at_of {xs : List V} {i : Nat} {v : V} (h : xs[i]? = some v) (l : i < 100000) : evIdx (.lst xs) (.int i) σ = some v := by
  unfold evIdx
  have e : (decide (-100000 < (i : Int)) && decide ((i : Int) < 100000)) = true := Bool.and_eq_true_iff.mpr ⟨decide_eq_true (Int.lt_of_lt_of_le (by decide) (Int.natCast_nonneg i)), decide_eq_true (Int.ofNat_lt.mpr l)⟩
  dsimp only
  rw [show getL σ (.lst xs) = some xs from rfl, Option.bind_some, e, cond_true, seq_nat (List.getElem?_eq_some_iff.mp h).1]
  exact h
theorem sing_map (as : List Int) : relV (as.map fun a => [a]) = .lst (as.map fun a => .tup [.int a]) := congrArg V.lst List.map_map
abbrev cmR (b : List Stmt) (i : Nat) : Cmp := cmA (valA (stA b i))
theorem l_atoms {H : List (List (List Int))} {nm : List String} {as : List Int} (h1 : nm.contains x = true) (h2 : nm.length ≤ 1000) (h4 : as.length ≤ 1000) (h3 : H[nm.findIdx (· == x)]? = some (as.map fun a => [a])) : Con C tab 20 f__law_atoms [hereV H, .lst (strsV nm), sv x] σ (.lst (as.map .int)) σ :=
  con_of (q := [.w 678052 (.int (nm.findIdx (· == x) : Nat)) σ, .v 678053 (.lst (as.map fun a => .tup [.int a])), .l 678054 (as.map .int), .v 0 (.lst (as.map .int))])
    (fun _ e => ob (idx_of (σ := σ) (lk := List.range σ.length) h1 (Nat.le_trans h2 (by decide))) (ob (at_of (σ := σ) (xs := H.map relV) ((List.getElem?_map ..).trans ((congrArg (·.map relV) h3).trans (congrArg some (sing_map as)))) (Nat.lt_of_le_of_lt (Nat.le_trans List.findIdx_le_length h2) (by decide)))
      (ob (comp_map (σ := σ) (r := ev C tab 18) (lk := List.range σ.length) (cmR f__law_atoms.body 0) (y := S "row") (m0 := []) (xs := as) (fun a => .tup [.int a]) .int (by kernel_rfl) (by kernel_rfl) rfl (Nat.le_trans h4 (by decide)) fun a _ => turn_of (q := []) (fun _ e => e) fun k => by kernel_rfl)
      (ob (fr_lst (σ := σ) (n := σ.length) (pls_ints as)) e)))) (by kernel_rfl)
end
abbrev Rel := List (List Int)
def sUn (A B : Rel) : Rel := A ++ B.filter fun r => !A.contains r
def sMe (A B : Rel) : Rel := A.filter fun r => B.contains r
def sAh (A B : Rel) : Rel := B.filter fun r => A.contains (r.take 1)
def sPr (A B : Rel) : Rel := A.flatMap fun r => B.map fun l => r ++ l
def jStep (row : List Int) (acc : Rel) (late : List Int) : Rel :=
  cond (row.getLast? == late.head? && !acc.contains (row.dropLast ++ late.tail)) (acc ++ [row.dropLast ++ late.tail]) acc
def sJo (A B : Rel) : Rel := A.foldl (fun acc row => B.foldl (jStep row) acc) []
abbrev SetIs (C : Cx) (K : Nat) (x h e : V) (σ : List Cell) (rs : Rel) : Prop := Con C tab K f__law_set [x, h, e] σ (relV rs) σ
section
variable {C : Cx} {σ : List Cell} {x y h e : V} {K : Nat} {A B : Rel}
theorem in_rows {a : List Int} (A : Rel) {b : Bool} (h : A.contains a = b) : evCop .In (rowV a) (relV A) σ = some b := by
  show grd (V.pls 40 (A.map rowV) && (rowV a).pl 40) _ = _
  rw [pls_rows, pl_row]
  exact congrArg some ((any_rows a A).trans h)
theorem notin_rows {a : List Int} (A : Rel) {b : Bool} (h : A.contains a = b) : evCop .NotIn (rowV a) (relV A) σ = some (!b) := congrArg (·.map (!·)) (in_rows (σ := σ) A h)
theorem fr_rel (σ : List Cell) (n : Nat) (l : Rel) : frd σ n 9 (relV l) = some (relV l) := fr_lst (pls_rows l)
theorem set_rel {H : List Rel} {k : Nat} {rs : Rel} (h : H[k]? = some rs) (hk : k < 1000) : SetIs C 20 (.tup [sv "rel", .int k]) (hereV H) e σ rs :=
  con_of (q := [.v 640028 (relV rs), .v 0 (relV rs)]) (fun _ e => ob (at_of (σ := σ) (xs := H.map relV) ((List.getElem?_map ..).trans (congrArg (·.map relV) h)) (Nat.lt_trans hk (by decide))) (ob (fr_rel σ σ.length rs) e)) (by kernel_rfl)
theorem set_var {env : List (Str × V)} {s : String} {a : Int} (h1 : getDc σ e = some env) (h2 : lkp env (S s) = some (.int a)) : SetIs C 20 (.tup [sv "var", sv s]) h e σ [[a]] :=
  con_of (q := [.v 642029 (.int a), .v 0 (relV [[a]])]) (fun _ e' => ob ((congrArg (·.bind fun kvs => lkp kvs (S s)) h1).trans h2 : evIdx e (sv s) σ = some (.int a)) (ob (fr_new (σ := σ) (l := [rowV [a]]) rfl) e')) (by kernel_rfl)
theorem add_rows {A B : List V} (lA : A.length ≤ 200) (lB : B.length ≤ 200) : evBop .Add (.lst A) (.lst B) σ = some (.lst (A ++ B)) := grd_of (Nat.ble_eq_true_of_le (Nat.le_trans (Nat.add_le_add lA lB) (by decide)))
abbrev setB (i : Nat) : Cmp := cmR (thenA (stA f__law_set.body i)) 0
abbrev unC : Cmp := cmA (argA 1 (valA (stA (thenA (stA f__law_set.body 4)) 0)))
theorem le20 (K k : Nat) : K ≤ K + k := Nat.le_add_right _ _
theorem set_un (h1 : SetIs C K x h e σ A) (h2 : SetIs C K y h e σ B) (lA : A.length ≤ 200) (lB : B.length ≤ 200) : SetIs C (K + 20) (.tup [sv "union", x, y]) h e σ (sUn A B) :=
  con_of (q := [.r 643046 K (relV A), .r 643076 K (relV B), .l 645061 ((B.filter fun r => !A.contains r).map rowV), .v 645061 (relV (sUn A B)), .v 0 (relV (sUn A B))])
    (fun _ e' => ob (ob (le20 K 13) h1) (ob (ob (le20 K 12) h2) (ob (comp_fil (σ := σ) (r := ev C tab (K + 12)) (lk := List.range σ.length) unC (y := S "row") (m0 := [(S "one", relV A)]) (xs := B) rowV rowV (fun r => !A.contains r) (by kernel_rfl) (by kernel_rfl) (by kernel_rfl) (Nat.le_trans lB (by decide)) fun b _ => by
      cases q : A.contains b with
      | true => exact turn_of (q := [.b 645060 false]) (fun _ e => ob (notin_rows (σ := σ) A q) e) fun k => by kernel_rfl
      | false => exact turn_of (q := [.b 645060 true]) (fun _ e => ob (notin_rows (σ := σ) A q) e) fun k => by kernel_rfl)
      (ob ((add_rows (σ := σ) (by rw [List.length_map]; exact lA) (by rw [List.length_map]; exact Nat.le_trans (List.length_filter_le ..) lB)).trans (congrArg (fun l => some (V.lst l)) List.map_append.symm) : evBop .Add (relV A) (.lst ((B.filter fun r => !A.contains r).map rowV)) σ = some (relV (sUn A B))) (ob (fr_rel σ σ.length (sUn A B)) e'))))) (by kernel_rfl)
theorem set_me (h1 : SetIs C K x h e σ A) (h2 : SetIs C K y h e σ B) (lA : A.length ≤ 200) : SetIs C (K + 20) (.tup [sv "meet", x, y]) h e σ (sMe A B) :=
  con_of (q := [.r 643046 K (relV A), .r 643076 K (relV B), .l 647051 ((sMe A B).map rowV), .v 0 (relV (sMe A B))])
    (fun _ e' => ob (ob (le20 K 13) h1) (ob (ob (le20 K 12) h2) (ob (comp_fil (σ := σ) (r := ev C tab (K + 12)) (lk := List.range σ.length) (setB 5) (y := S "row") (m0 := [(S "other", relV B)]) (xs := A) rowV rowV (fun r => B.contains r) (by kernel_rfl) (by kernel_rfl) (by kernel_rfl) (Nat.le_trans lA (by decide)) fun b _ => by
      cases q : B.contains b with
      | true => exact turn_of (q := [.b 647050 true]) (fun _ e => ob (in_rows (σ := σ) B q) e) fun k => by kernel_rfl
      | false => exact turn_of (q := [.b 647050 false]) (fun _ e => ob (in_rows (σ := σ) B q) e) fun k => by kernel_rfl)
      (ob (fr_rel σ σ.length (sMe A B)) e')))) (by kernel_rfl)
theorem slc_nat {α : Type} (xs : List α) (k : Nat) : slc xs none (some (k : Int)) = xs.take k := by
  show xs.take (clipAt xs.length k) = _
  rw [clipAt_nat]
  exact List.take_eq_take_min.symm
theorem slc_last {α : Type} (xs : List α) : slc xs none (some (-1)) = xs.dropLast := by
  show xs.take (clipAt xs.length (-(1 : Nat))) = _
  rw [clipAt_neg _ _ (Nat.le_refl 1)]
  exact List.dropLast_eq_take.symm
theorem slc_tail {α : Type} (xs : List α) : slc xs (some 1) none = xs.tail := by
  cases xs with
  | nil => rfl
  | cons x l =>
    show ((x :: l).drop (clipAt (l.length + 1) (1 : Nat))).take (l.length + 1 - clipAt (l.length + 1) (1 : Nat)) = l
    rw [clipAt_nat, Nat.min_eq_left (Nat.succ_le_succ (Nat.zero_le _))]
    exact List.take_length
theorem slcR_row {r : List Int} {lo hi : Option Int} (l : r.length ≤ 100) : slcR σ lo hi (rowV r) = some (.tup (slc (r.map .int) lo hi)) := lt_of (d := rowV r) (l := r.map .int) (g := fun xs => cond (isTup (rowV r)) (V.tup (slc xs lo hi)) (.lst (slc xs lo hi))) rfl (by rw [List.length_map]; exact Nat.le_trans l (by decide))
theorem slc_row {r : List Int} (l : r.length ≤ 100) : slcR σ none (some 1) (rowV r) = some (rowV (r.take 1)) := (slcR_row l).trans (congrArg (fun x => some (V.tup x)) ((slc_nat _ 1).trans List.map_take.symm))
theorem slc_rowL {r : List Int} (l : r.length ≤ 100) : slcR σ none (some (-1)) (rowV r) = some (rowV r.dropLast) := (slcR_row l).trans (congrArg (fun x => some (V.tup x)) ((slc_last _).trans List.map_dropLast.symm))
theorem slc_rowT {r : List Int} (l : r.length ≤ 100) : slcR σ (some 1) none (rowV r) = some (rowV r.tail) := (slcR_row l).trans (congrArg (fun x => some (V.tup x)) ((slc_tail _).trans List.map_tail.symm))
theorem set_ah (h1 : SetIs C K x h e σ A) (h2 : SetIs C K y h e σ B) (lB : B.length ≤ 200) (sB : ∀ r ∈ B, r.length ≤ 100) : SetIs C (K + 20) (.tup [sv "ahead", x, y]) h e σ (sAh A B) :=
  con_of (q := [.r 643046 K (relV A), .r 643076 K (relV B), .l 649055 ((sAh A B).map rowV), .v 0 (relV (sAh A B))])
    (fun _ e' => ob (ob (le20 K 13) h1) (ob (ob (le20 K 12) h2) (ob (comp_fil (σ := σ) (r := ev C tab (K + 11)) (lk := List.range σ.length) (setB 6) (y := S "row") (m0 := [(S "one", relV A)]) (xs := B) rowV rowV (fun r => A.contains (r.take 1)) (by kernel_rfl) (by kernel_rfl) (by kernel_rfl) (Nat.le_trans lB (by decide)) fun b hb => by
      cases q : A.contains (b.take 1) with
      | true => exact turn_of (q := [.v 649047 (rowV (b.take 1)), .b 649054 true]) (fun _ e => ob (slc_row (σ := σ) (sB b hb)) (ob (in_rows (σ := σ) A q) e)) fun k => by kernel_rfl
      | false => exact turn_of (q := [.v 649047 (rowV (b.take 1)), .b 649054 false]) (fun _ e => ob (slc_row (σ := σ) (sB b hb)) (ob (in_rows (σ := σ) A q) e)) fun k => by kernel_rfl)
      (ob (fr_rel σ σ.length (sAh A B)) e')))) (by kernel_rfl)
theorem add_row {a b : List Int} (la : a.length ≤ 100) (lb : b.length ≤ 100) : evBop .Add (rowV a) (rowV b) σ = some (rowV (a ++ b)) := by
  show grd (Nat.ble ((a.map V.int).length + (b.map V.int).length) 10000) (V.tup (a.map V.int ++ b.map V.int)) = _
  rw [List.length_map, List.length_map, ← List.map_append]
  exact grd_of (Nat.ble_eq_true_of_le (Nat.le_trans (Nat.add_le_add la lb) (by decide)))
theorem flat_len {α β : Type} (B : List β) (xs : List α) : (xs.flatMap fun _ => B).length = xs.length * B.length := by
  rw [List.length_flatMap, List.map_const', List.sum_replicate_nat]
theorem pr_eq : (A.flatMap fun a => B.filterMap fun b => some (rowV (a ++ b))) = (sPr A B).map rowV := by
  unfold sPr
  rw [List.map_flatMap]
  exact congrArg (A.flatMap ·) (funext fun a => (congrFun (List.filterMap_eq_map (f := fun b => rowV (a ++ b))) B).trans (List.map_map (g := rowV) (f := (a ++ ·)) (l := B)).symm)
theorem set_pr (h1 : SetIs C K x h e σ A) (h2 : SetIs C K y h e σ B) (lA : A.length ≤ 200) (lB : B.length ≤ 200) (sA : ∀ r ∈ A, r.length ≤ 100) (sB : ∀ r ∈ B, r.length ≤ 100) : SetIs C (K + 20) (.tup [sv "product", x, y]) h e σ (sPr A B) :=
  con_of (q := [.r 643046 K (relV A), .r 643076 K (relV B), .l 651060 ((sPr A B).map rowV), .v 0 (relV (sPr A B))])
    (fun _ e' => ob (ob (le20 K 13) h1) (ob (ob (le20 K 12) h2) (ob (pr_eq ▸ NestP_of (σ := σ) (r := ev C tab (K + 10)) (lk := List.range σ.length) (setB 7) (y := S "row") (y2 := S "late") (m0 := [(S "other", relV B)]) (xs := A) rowV rowV (fun a b => some (rowV (a ++ b))) (fun _ => B) (fun _ => []) (by kernel_rfl) (by kernel_rfl) (by kernel_rfl) (by kernel_rfl) (by kernel_rfl) (by kernel_rfl) (by kernel_rfl) (by kernel_rfl) (flat_len B A ▸ Nat.le_trans (Nat.mul_le_mul lA lB) (by decide))
      (fun a _ m hm => by
        cases hm with
        | a => exact turn2_of (q := []) (fun _ e => e) fun k => by kernel_rfl
        | b w => exact turn2_of (q := []) (fun _ e => e) fun k => by kernel_rfl)
      fun a ha b hb => turn_of (q := [.v 651026 (rowV (a ++ b))]) (fun _ e => ob (add_row (σ := σ) (sA a ha) (sB b hb)) e) fun k => by kernel_rfl)
      (ob (fr_rel σ σ.length (sPr A B)) e')))) (by kernel_rfl)
end
abbrev joM (σ : List Cell) (x y h e : V) (A B : Rel) : M := [(S "found", .loc σ.length), (S "other", relV B), (S "one", relV A), (S "op", sv "join"), (S "expr", .tup [sv "join", x, y]), (S "here", h), (S "env", e)]
abbrev joS (σ : List Cell) (acc : Rel) : List Cell := σ ++ [.list (acc.map rowV)]
abbrev joO : Stmt := stA f__law_set.body 9
abbrev joI : Stmt := stA (thenA joO) 0
inductive RowE (r : List Int) : Prop
  | mk (l : r.length ≤ 100) (a b : Int) (last : r.getLast? = some b) (head : r.head? = some a)
section
variable {C : Cx} {σ : List Cell} {x y h e : V} {K : Nat} {A B : Rel}
theorem seq_last {n : Nat} : seqIndex? (-1) (n + 1) = some n := by
  have e : (-1 : Int) + ((n + 1 : Nat) : Int) = n := (Int.add_comm ..).trans (Int.add_neg_cancel_right n 1)
  show (if (decide (0 ≤ (-1 : Int) + ((n + 1 : Nat) : Int)) && decide ((-1 : Int) + ((n + 1 : Nat) : Int) < (n + 1 : Nat))) = true then some ((-1 : Int) + ((n + 1 : Nat) : Int)).toNat else none) = _
  rw [e]
  exact if_pos (Bool.and_eq_true_iff.mpr ⟨decide_eq_true (Int.natCast_nonneg n), decide_eq_true (Int.ofNat_lt.mpr (Nat.lt_succ_self n))⟩)
theorem ix_last {r : List Int} {b : Int} (h : r.getLast? = some b) (σ : List Cell) : evIdx (rowV r) (.int (-1)) σ = some (.int b) := by
  cases r with
  | nil => exact none_ne h
  | cons a r =>
    refine (congrArg (fun o : Option Nat => o.bind fun j => (V.int a :: r.map V.int)[j]?) ((congrArg (fun n => seqIndex? (-1) (n + 1)) (List.length_map (as := r) V.int)).trans seq_last)).trans ?_
    rw [List.getLast?_eq_getElem?] at h
    exact (List.getElem?_map (f := V.int) (l := a :: r)).trans (congrArg (·.map V.int) h)
theorem ix_head {r : List Int} {b : Int} (h : r.head? = some b) (σ : List Cell) : evIdx (rowV r) (.int 0) σ = some (.int b) := by
  cases r with
  | nil => exact none_ne h
  | cons a r =>
    obtain rfl := Option.some.inj h
    exact (congrArg (fun o : Option Nat => o.bind fun j => (V.int a :: r.map V.int)[j]?) (seq_nat (Nat.succ_pos _))).trans rfl
theorem notin_loc {a : List Int} {n : Nat} (A : Rel) {b : Bool} (g : σ[n]? = some (.list (A.map rowV))) (h : A.contains a = b) : evCop .NotIn (rowV a) (.loc n) σ = some (!b) := by
  show ((getL σ (.loc n)).bind fun xs => grd (V.pls 40 xs && (rowV a).pl 40) (xs.any fun y => veq y (rowV a))).map (!·) = _
  rw [gl_of g]
  exact congrArg (·.map (!·)) (in_rows (σ := σ) A h)
theorem jo_body {r l : List Int} {acc : Rel} (hr : RowE r) (hl : RowE l) (n : acc.length ≤ 50000) : To2 (fun q => (ev C tab (K + 9)).x (List.range σ.length) f__law_set.sc.names (thenA joI) q ((S "late", rowV l) :: (S "row", rowV r) :: joM σ x y h e A B) (joS σ acc)) .next ((S "late", rowV l) :: (S "row", rowV r) :: joM σ x y h e A B) (joS σ (jStep r acc l)) := by
  obtain ⟨lr, _, a, h1, _⟩ := hr
  obtain ⟨ll, b, _, _, h2⟩ := hl
  unfold jStep
  rw [h1, h2]
  have i1 := ix_last h1 (joS σ acc)
  have i2 := ix_head h2 (joS σ acc)
  have s1 := slc_rowL (σ := joS σ acc) lr
  have s2 := slc_rowT (σ := joS σ acc) ll
  have ad := add_row (σ := joS σ acc) (a := r.dropLast) (b := l.tail) (Nat.le_trans (List.length_dropLast ▸ Nat.sub_le ..) lr) (Nat.le_trans (List.length_tail ▸ Nat.sub_le ..) ll)
  have g : (joS σ acc)[σ.length]? = some (.list (acc.map rowV)) := get_new
  cases q : a == b with
  | false =>
    rw [show (some a == some b) = false from q]
    exact body_of (q := [.v 655022 (.int a), .v 655033 (.int b), .b 655033 false]) (fun _ e => ob i1 (ob i2 (ob (congrArg some q) e))) fun k => by kernel_rfl
  | true =>
    rw [show (some a == some b) = true from q]
    cases q2 : acc.contains (r.dropLast ++ l.tail) with
    | true => exact body_of (q := [.v 655022 (.int a), .v 655033 (.int b), .b 655033 true, .v 655046 (rowV r.dropLast), .v 655057 (rowV l.tail), .v 655057 (rowV (r.dropLast ++ l.tail)), .b 655070 false]) (fun _ e => ob i1 (ob i2 (ob (congrArg some q) (ob s1 (ob s2 (ob ad (ob (notin_loc acc g q2) e))))))) fun k => by kernel_rfl
    | false =>
      have ap := app_new (σ := σ) (xs := acc.map rowV) (d := rowV (r.dropLast ++ l.tail)) (by rw [List.length_map]; exact n)
      have eq : σ ++ [Cell.list (acc.map rowV ++ [rowV (r.dropLast ++ l.tail)])] = joS σ (acc ++ [r.dropLast ++ l.tail]) := by rw [joS, List.map_append]; rfl
      exact body_of (q := [.v 655022 (.int a), .v 655033 (.int b), .b 655033 true, .v 655046 (rowV r.dropLast), .v 655057 (rowV l.tail), .v 655057 (rowV (r.dropLast ++ l.tail)), .b 655070 true, .t 656049 true, .v 656037 (rowV r.dropLast), .v 656048 (rowV l.tail), .v 656048 (rowV (r.dropLast ++ l.tail)), .w 656049 .none (joS σ (acc ++ [r.dropLast ++ l.tail]))])
        (fun _ e => ob i1 (ob i2 (ob (congrArg some q) (ob s1 (ob s2 (ob ad (ob (notin_loc acc g q2) (ob (congrArg some (ty_new (σ := σ) (xs := acc.map rowV))) (ob s1 (ob s2 (ob ad (ob (eq ▸ ap) e)))))))))))) fun k => by kernel_rfl
inductive JoI (σ : List Cell) (m0 : M) (T acc0 : Rel) (r : List Int) (xs : Rel) (m : M) (s : List Cell) : Prop
  | mk (acc : Rel) (es : s = joS σ acc) (fd : xs.foldl (jStep r) acc = T) (ln : acc.length + xs.length ≤ 50000) (hm : rm (S "late") m = (S "row", rowV r) :: m0) (nm : NestM (S "row") (S "late") m0 m) (ok : ∀ l ∈ xs, RowE l)
theorem jStep_len (row : List Int) (acc : Rel) (l : List Int) : (jStep row acc l).length ≤ acc.length + 1 := by
  unfold jStep
  cases row.getLast? == l.head? && !acc.contains (row.dropLast ++ l.tail) with
  | true => exact Nat.le_of_eq List.length_append
  | false => exact Nat.le_succ _
theorem jo_row {r : List Int} {acc : Rel} {m : M} (hr : RowE r) (ok : ∀ l ∈ B, RowE l) (n : acc.length + B.length ≤ 50000) (hm : rm (S "late") m = (S "row", rowV r) :: joM σ x y h e A B) (nm : NestM (S "row") (S "late") (joM σ x y h e A B) m) :
    ∃ m', NestM (S "row") (S "late") (joM σ x y h e A B) m' ∧ ForP (ev C tab (K + 9)) (List.range σ.length) f__law_set.sc.names (tgA joI) (thenA joI) (B.map rowV) m (joS σ acc) .next m' (joS σ (B.foldl (jStep r) acc)) := by
  obtain ⟨f, m', σ', ⟨rfl, rfl, nm⟩, k⟩ := for_ex (r := ev C tab (K + 9)) (lk := List.range σ.length) (nk := f__law_set.sc.names) (body := thenA joI) (y := S "late") (p := (tgA joI).pos) (g := rowV) (I := JoI σ (joM σ x y h e A B) (B.foldl (jStep r) acc) acc r) (E := fun f m s => f = .next ∧ s = joS σ (B.foldl (jStep r) acc) ∧ NestM (S "row") (S "late") (joM σ x y h e A B) m) (by kernel_rfl)
    (fun m s i => by
      obtain ⟨acc, rfl, rfl, _, _, nm, _⟩ := i
      exact ⟨rfl, rfl, nm⟩)
    (fun l xs m s i => by
      obtain ⟨acc', rfl, fd, ln, hm, nm, ok⟩ := i
      rw [hm]
      exact ⟨_, _, _, jo_body hr (ok l (.head _)) (Nat.le_trans (Nat.le_add_right ..) ln), _, rfl, fd, Nat.le_trans (Nat.add_le_add_right (jStep_len ..) _) (Nat.le_trans (Nat.le_of_eq (Nat.add_right_comm ..)) ln), (rm_put ..).trans (by kernel_rfl), .c _ _, fun z hz => ok z (.tail _ hz)⟩) B (m := m) (σ := joS σ acc) ⟨acc, rfl, rfl, n, hm, nm, ok⟩
  exact ⟨m', nm, k []⟩
theorem foldJ_len (r : List Int) (B : Rel) : ∀ acc : Rel, (B.foldl (jStep r) acc).length ≤ acc.length + B.length := by
  induction B with
  | nil => exact fun _ => Nat.le_refl _
  | cons l B ih => exact fun acc => Nat.le_trans (ih _) (Nat.le_trans (Nat.add_le_add_right (jStep_len ..) _) (Nat.le_of_eq (Nat.add_right_comm ..)))
inductive JoO (σ : List Cell) (m0 : M) (B T : Rel) (xs : Rel) (m : M) (s : List Cell) : Prop
  | mk (acc : Rel) (es : s = joS σ acc) (fd : xs.foldl (fun acc row => B.foldl (jStep row) acc) acc = T) (ln : acc.length + xs.length * B.length ≤ 50000) (nm : NestM (S "row") (S "late") m0 m) (ok : ∀ l ∈ xs, RowE l)
theorem jo_for (sA : ∀ r ∈ A, RowE r) (sB : ∀ r ∈ B, RowE r) (n : A.length * B.length ≤ 50000) :
    ∃ m', NestM (S "row") (S "late") (joM σ x y h e A B) m' ∧ ForP (ev C tab (K + 10)) (List.range σ.length) f__law_set.sc.names (tgA joO) (thenA joO) (A.map rowV) (joM σ x y h e A B) (joS σ []) .next m' (joS σ (sJo A B)) := by
  obtain ⟨f, m', σ', ⟨rfl, rfl, nm⟩, k⟩ := for_ex (r := ev C tab (K + 10)) (lk := List.range σ.length) (nk := f__law_set.sc.names) (body := thenA joO) (y := S "row") (p := (tgA joO).pos) (g := rowV) (I := JoO σ (joM σ x y h e A B) B (sJo A B)) (E := fun f m s => f = .next ∧ s = joS σ (sJo A B) ∧ NestM (S "row") (S "late") (joM σ x y h e A B) m) (by kernel_rfl)
    (fun m s i => by
      obtain ⟨acc, rfl, rfl, _, nm, _⟩ := i
      exact ⟨rfl, rfl, nm⟩)
    (fun r xs m s i => by
      obtain ⟨acc, rfl, fd, ln, nm, ok⟩ := i
      rw [List.length_cons, Nat.succ_mul, Nat.add_comm (_ * _), ← Nat.add_assoc] at ln
      have nt := nm.turn (by kernel_rfl) (by kernel_rfl) (rowV r)
      have hd := nt.drop (by kernel_rfl) (by kernel_rfl)
      generalize (S "row", rowV r) :: rm (S "row") m = m₁ at nt hd
      have nm₁ : NestM (S "row") (S "late") (joM σ x y h e A B) m₁ := by
        cases nt with
        | a => exact .b _
        | b w => exact .d _ _
      obtain ⟨m', nm', fp⟩ := jo_row (C := C) (K := K) (ok r (.head _)) sB (Nat.le_trans (Nat.le_add_right ..) ln) hd nm₁
      have t : To2 (fun q => (ev C tab (K + 10)).x (List.range σ.length) f__law_set.sc.names (thenA joO) q m₁ (joS σ acc)) .next m' (joS σ (B.foldl (jStep r) acc)) := by
        cases nt with
        | a => exact body_of (q := [.f 654049 .next m' (joS σ (B.foldl (jStep r) acc))]) (fun _ e => ob fp e) fun k => by kernel_rfl
        | b w => exact body_of (q := [.f 654049 .next m' (joS σ (B.foldl (jStep r) acc))]) (fun _ e => ob fp e) fun k => by kernel_rfl
      exact ⟨.next, m', _, t, _, rfl, fd, Nat.le_trans (Nat.add_le_add_right (foldJ_len ..) _) ln, nm', fun z hz => ok z (.tail _ hz)⟩) A (m := joM σ x y h e A B) (σ := joS σ []) ⟨[], rfl, rfl, Nat.le_trans (Nat.le_of_eq (Nat.zero_add _)) n, .a, sA⟩
  exact ⟨m', nm, k []⟩
theorem set_jo (h1 : SetIs C K x h e σ A) (h2 : SetIs C K y h e σ B) (lA : A.length ≤ 200) (lB : B.length ≤ 200) (sA : ∀ r ∈ A, RowE r) (sB : ∀ r ∈ B, RowE r) : SetIs C (K + 20) (.tup [sv "join", x, y]) h e σ (sJo A B) := by
  obtain ⟨m', nm, fp⟩ := jo_for (C := C) (σ := σ) (x := x) (y := y) (h := h) (e := e) (K := K) sA sB (Nat.le_trans (Nat.mul_le_mul lA lB) (by decide))
  have o := fun E (e' : E) => ob (ob (le20 K 13) h1) (ob (ob (le20 K 12) h2) (ob fp (ob (fr_new (σ := σ) (pls_rows (sJo A B))) e')))
  cases nm with
  | a => exact con_of (q := [.r 643046 K (relV A), .r 643076 K (relV B), .f 653049 .next (joM σ x y h e A B) (joS σ (sJo A B)), .v 0 (relV (sJo A B))]) o (by kernel_rfl)
  | b v => exact con_of (q := [.r 643046 K (relV A), .r 643076 K (relV B), .f 653049 .next ((S "row", v) :: joM σ x y h e A B) (joS σ (sJo A B)), .v 0 (relV (sJo A B))]) o (by kernel_rfl)
  | c w v => exact con_of (q := [.r 643046 K (relV A), .r 643076 K (relV B), .f 653049 .next ((S "late", w) :: (S "row", v) :: joM σ x y h e A B) (joS σ (sJo A B)), .v 0 (relV (sJo A B))]) o (by kernel_rfl)
  | d w v => exact con_of (q := [.r 643046 K (relV A), .r 643076 K (relV B), .f 653049 .next ((S "row", v) :: (S "late", w) :: joM σ x y h e A B) (joS σ (sJo A B)), .v 0 (relV (sJo A B))]) o (by kernel_rfl)
end
abbrev TrIs (C : Cx) (K : Nat) (f h e : V) (σ : List Cell) (b : Bool) : Prop := Con C tab K f__law_true [f, h, e] σ (.bool b) σ
section
variable {C : Cx} {σ : List Cell} {x y h e : V} {K : Nat} {A B : Rel}
theorem eq_nil {xs : List V} {b : Bool} (hp : V.pls 39 xs = true) (h : xs.isEmpty = b) : evCop .Eq (.lst xs) (.loc σ.length) (σ ++ [.list []]) = some b := by
  show (shownV (σ ++ [Cell.list []]) (.loc σ.length)).bind (fun b' => grd ((V.lst xs).pl 40 && b'.pl 40) (veq (.lst xs) b')) = _
  rw [show shownV (σ ++ [Cell.list []]) (.loc σ.length) = some (.lst []) from (congrArg (·.map V.lst) (gl_of get_new)).trans rfl]
  show grd (V.pls 39 xs && true) (PyData.eqvAll (V.pys xs) []) = _
  rw [hp]
  exact congrArg some (((by cases xs <;> rfl : PyData.eqvAll (V.pys xs) [] = xs.isEmpty)).trans h)
theorem fil_all {α : Type} (t : α → Bool) (xs : List α) (f : α → V) : ((xs.filter fun p => !t p).map f).isEmpty = xs.all t := by
  induction xs with
  | nil => rfl
  | cons x xs ih =>
    rw [List.filter_cons, List.all_cons]
    cases t x with
    | true => exact ih
    | false => rfl
theorem pls_fil {α : Type} {k : Nat} (t : α → Bool) {xs : List α} {f : α → V} (h : ∀ x ∈ xs, (f x).pl k = true) : V.pls k ((xs.filter t).map f) = true :=
  List.all_eq_true.mpr fun d m => by
    obtain ⟨a, ma, rfl⟩ := List.mem_map.mp m
    exact h a (List.mem_filter.mp ma).1
abbrev trC (i j : Nat) : Cmp := cmA (argA 0 (valA (stA (thenA (stA f__law_true.body i)) j)))
theorem tr_and {fs : List (V × Bool)} (H : ∀ p ∈ fs, TrIs C K p.1 h e σ p.2) (l : fs.length ≤ 1000) (hp : ∀ p ∈ fs, p.1.pl 39 = true) : TrIs C (K + 20) (.tup [sv "and", .tup (fs.map (·.1))]) h e σ (fs.all (·.2)) :=
  con_of (q := [.l 665075 ((fs.filter fun p => !p.2).map (·.1)), .b 665081 (fs.all (·.2))])
    (fun _ e' => ob (comp_fil (σ := σ) (r := ev C tab (K + 15)) (lk := List.range σ.length) (trC 1 0) (y := S "one") (m0 := [(S "here", h), (S "env", e)]) (xs := fs) (·.1) (·.1) (fun p => !p.2) (by kernel_rfl) (by kernel_rfl) (by kernel_rfl) (Nat.le_trans l (by decide)) fun p hq => by
      have c := H p hq
      cases q : p.2 with
      | true => rw [q] at c; exact turn_of (q := [.r 665074 K (.bool true)]) (fun _ e => ob (ob (le20 K 12) c) e) fun k => by kernel_rfl
      | false => rw [q] at c; exact turn_of (q := [.r 665074 K (.bool false)]) (fun _ e => ob (ob (le20 K 12) c) e) fun k => by kernel_rfl)
      (ob (eq_nil (σ := σ) (pls_fil _ hp) (fil_all (·.2) fs (·.1))) e')) (by kernel_rfl)
theorem tr_in (h1 : SetIs C K x h e σ A) (h2 : SetIs C K y h e σ B) (lA : A.length ≤ 200) : TrIs C (K + 20) (.tup [sv "in", x, y]) h e σ (A.all fun r => B.contains r) :=
  con_of (q := [.r 667047 K (relV B), .r 668062 K (relV A), .l 668083 ((A.filter fun r => !B.contains r).map rowV), .b 668089 (A.all fun r => B.contains r)])
    (fun _ e' => ob (ob (le20 K 15) h2) (ob (ob (le20 K 12) h1) (ob (comp_fil (σ := σ) (r := ev C tab (K + 13)) (lk := List.range σ.length) (trC 2 1) (y := S "row") (m0 := [(S "whole", relV B)]) (xs := A) rowV rowV (fun r => !B.contains r) (by kernel_rfl) (by kernel_rfl) (by kernel_rfl) (Nat.le_trans lA (by decide)) fun b _ => by
      cases q : B.contains b with
      | true => exact turn_of (q := [.b 668082 false]) (fun _ e => ob (notin_rows (σ := σ) B q) e) fun k => by kernel_rfl
      | false => exact turn_of (q := [.b 668082 true]) (fun _ e => ob (notin_rows (σ := σ) B q) e) fun k => by kernel_rfl)
      (ob (eq_nil (σ := σ) (pls_fil _ fun r _ => pl_row r) (fil_all (fun r => B.contains r) A rowV)) e')))) (by kernel_rfl)
abbrev Many4 (s : String) : Prop := s = "no" ∨ s = "one" ∨ s = "lone" ∨ s = "some"
theorem Many4.s {s : String} (h : Many4 s) : ManyS s := h.imp id fun h => .inr (.inr (h.elim (fun h => .inr (.inl h)) fun h => h.elim (fun h => .inr (.inr h)) .inl))
theorem len_of {d : V} {l : List V} (e : getL σ d = some l) (h : l.length ≤ 100000) : evBui .len [d] σ = some (.int l.length, σ) := lt_of (g := fun xs => (V.int xs.length, σ)) e h
theorem tr_many {s : String} (hs : Many4 s) (h1 : SetIs C K x h e σ A) (lA : A.length ≤ 200) : TrIs C (K + 20) (.tup [sv s, x]) h e σ (manyB s A.length) := by
  have c := l_many (C := C) (σ := σ) (c := A.length) hs.s
  have n := (len_of (σ := σ) (d := relV A) (l := A.map rowV) rfl (by rw [List.length_map]; exact Nat.le_trans lA (by decide))).trans (congrArg (fun n : Nat => some (V.int n, σ)) (List.length_map (as := A) rowV))
  have o := fun E (e' : E) => ob (ob (le20 K 8) h1) (ob n (ob (ob (Nat.le_trans (by decide) (Nat.le_add_left 13 K) : 12 ≤ K + 13) c) e'))
  rcases hs with rfl | rfl | rfl | rfl
  · exact con_of (q := [.r 676076 K (relV A), .w 676077 (.int A.length) σ, .r 676078 12 (.bool (manyB "no" A.length))]) o (by kernel_rfl)
  · exact con_of (q := [.r 676076 K (relV A), .w 676077 (.int A.length) σ, .r 676078 12 (.bool (manyB "one" A.length))]) o (by kernel_rfl)
  · exact con_of (q := [.r 676076 K (relV A), .w 676077 (.int A.length) σ, .r 676078 12 (.bool (manyB "lone" A.length))]) o (by kernel_rfl)
  · exact con_of (q := [.r 676076 K (relV A), .w 676077 (.int A.length) σ, .r 676078 12 (.bool (manyB "some" A.length))]) o (by kernel_rfl)
end
theorem pairs_map (kvs : List (Str × V)) : pairsOf (kvs.map pairV) = some kvs := by
  induction kvs with
  | nil => rfl
  | cons p r ih => exact (congrArg (fun o : Option (List (Str × V)) => o.map (p :: ·)) ih).trans rfl
theorem fput_new {k : Str} {v : V} {l : List (Str × V)} (h : k ∉ l.map (·.1)) : fputK l k v = l ++ [(k, v)] := by
  induction l with
  | nil => rfl
  | cons p r ih =>
    have h : k ≠ p.1 ∧ k ∉ r.map (·.1) := not_or.mp fun z => h (List.mem_cons.mpr z)
    show cond (sq p.1 k) ((p.1, v) :: r) (p :: fputK r k v) = _
    rw [Bool.eq_false_iff.mpr fun z => h.1 (sq_iff.mp z).symm, ih h.2]
    rfl
theorem fput_nd {ps : List (Str × V)} : ∀ {acc : List (Str × V)}, ((acc ++ ps).map (·.1)).Nodup → fputAll acc ps = acc ++ ps := by
  induction ps with
  | nil => exact fun _ => (List.append_nil _).symm
  | cons p r ih =>
    intro acc h
    have e : acc ++ p :: r = (acc ++ [p]) ++ r := (List.append_cons ..)
    have n : p.1 ∉ acc.map (·.1) := fun m => by
      rw [List.map_append] at h
      exact (List.nodup_append.mp h).2.2 _ m _ (.head _) rfl
    show fputAll (fputK acc p.1 p.2) r = _
    rw [fput_new n, ih (e ▸ h)]
    exact e.symm
theorem ent_nd {env : Ent} (h : (env.map (·.1)).Nodup) : ((entV env).map (·.1)).Nodup := by
  rw [entV, List.map_map, show ((fun p : Str × V => p.1) ∘ fun p : String × Int => (Str.ofString p.1, V.int p.2)) = Str.ofString ∘ (·.1) from rfl, ← List.map_map]
  exact List.Pairwise.map _ (fun a b n e => n (ofString_inj e)) h
theorem gd_ext {s : List Cell} {e : V} {kvs : List (Str × V)} (τ : List Cell) (h : getDc s e = some kvs) : getDc (s ++ τ) e = some kvs := by
  cases e with
  | loc n => exact dc_of (get_ext (dcell_ok h))
  | dct l => exact h
  | _ => exact none_ne h
abbrev alM (x : String) (dom body h e : V) : M := [(S "rest", .tup []), (S "expr", dom), (S "name", sv x), (S "op", sv "all"), (S "formula", .tup [sv "all", .tup [.tup [sv x, dom]], body]), (S "here", h), (S "env", e)]
abbrev alO : Stmt := stA (thenA (stA f__law_true.body 3)) 1
abbrev alS (s : List Cell) (x : String) (env : Ent) (a : Int) : List Cell := s ++ [.list [.tup [sv x, .int a]], .dict (entV (env ++ [(x, a)]))]
section
variable {C : Cx} {σ s : List Cell} {x : String} {dom body h e : V} {K : Nat} {D : Rel} {env : Ent}
theorem ent_len : (entV env).length = env.length := List.length_map _
theorem al_items (he : getDc s e = some (entV env)) (lE : env.length ≤ 100) : specV s e true = some (.lst ((entV env).map pairV)) := by
  show (getDc s e).bind (fun kvs => grd (Nat.ble kvs.length 1000 && kvs.all fun p => okF p.1.cps.toList) (V.lst (kvs.map pairV))) = _
  rw [he]
  exact grd_of (Bool.and_eq_true_iff.mpr ⟨Nat.ble_eq_true_of_le (ent_len ▸ Nat.le_trans lE (by decide)), List.all_eq_true.mpr fun p m => by
    obtain ⟨q, _, rfl⟩ := List.mem_map.mp m
    exact okF_lit _⟩)
theorem al_add {a : Int} (lE : env.length ≤ 100) : evBop .Add (.lst ((entV env).map pairV)) (.loc s.length) (s ++ [.list [.tup [sv x, .int a]]]) = some (.lst ((entV (env ++ [(x, a)])).map pairV)) := by
  show (getL (s ++ [Cell.list [.tup [sv x, .int a]]]) (.loc s.length)).bind (fun y => grd (Nat.ble (((entV env).map pairV).length + y.length) 100000) (V.lst ((entV env).map pairV ++ y))) = _
  rw [gl_of get_new]
  refine (grd_of (Nat.ble_eq_true_of_le ?_)).trans ?_
  · rw [List.length_map, ent_len]
    exact Nat.le_trans (Nat.add_le_add_right lE 1) (by decide)
  · rw [entV, entV, List.map_append, List.map_append]
    rfl
theorem al_dict {a : Int} (lE : env.length ≤ 100) (hn : ((env ++ [(x, a)]).map (·.1)).Nodup) : evBui .dict [.lst ((entV (env ++ [(x, a)])).map pairV)] (s ++ [.list [.tup [sv x, .int a]]]) = some (.loc (s.length + 1), alS s x env a) := by
  show (pairsOf ((entV (env ++ [(x, a)])).map pairV)).bind (fun ps => grd (Nat.ble ps.length 1000) (V.loc (s ++ [Cell.list [.tup [sv x, .int a]]]).length, (s ++ [Cell.list [.tup [sv x, .int a]]]) ++ [Cell.dict (fputAll [] ps)])) = _
  rw [pairs_map]
  show grd _ (_, _ ++ [Cell.dict (fputAll [] (entV (env ++ [(x, a)])))]) = _
  rw [show fputAll [] (entV (env ++ [(x, a)])) = entV (env ++ [(x, a)]) from fput_nd (acc := []) (ent_nd hn), List.length_append, List.append_assoc]
  refine grd_of (Nat.ble_eq_true_of_le ?_)
  rw [ent_len, List.length_append]
  exact Nat.le_trans (Nat.add_le_add_right lE 1) (by decide)
theorem al_body {a : Int} {b : Bool} {m₁ : M} (nt : NestT (S "row") (S "inner") (alM x dom body h e) (rowV [a]) m₁) (he : getDc s e = some (entV env)) (lE : env.length ≤ 100) (hn : ((env ++ [(x, a)]).map (·.1)).Nodup) (H : TrIs C K body h (.loc (s.length + 1)) (alS s x env a) b) :
    To2 (fun q => (ev C tab (K + 14)).x (List.range σ.length) f__law_true.sc.names (thenA alO) q m₁ s) (cond b .next (.ret (.bool false))) ((S "inner", .loc (s.length + 1)) :: (S "row", rowV [a]) :: alM x dom body h e) (alS s x env a) := by
  have o := fun E (e' : E) => ob (al_items he lE) (ob (al_add (s := s) (x := x) (a := a) lE) (ob (al_dict (s := s) lE hn) (ob (ob (le20 K 9) H) e')))
  cases nt with
  | a => cases b with
    | true => exact body_of (q := [.v 672042 (.lst ((entV env).map pairV)), .v 672061 (.lst ((entV (env ++ [(x, a)])).map pairV)), .w 672062 (.loc (s.length + 1)) (alS s x env a), .r 673098 K (.bool true)]) o fun k => by kernel_rfl
    | false => exact body_of (q := [.v 672042 (.lst ((entV env).map pairV)), .v 672061 (.lst ((entV (env ++ [(x, a)])).map pairV)), .w 672062 (.loc (s.length + 1)) (alS s x env a), .r 673098 K (.bool false)]) o fun k => by kernel_rfl
  | b w => cases b with
    | true => exact body_of (q := [.v 672042 (.lst ((entV env).map pairV)), .v 672061 (.lst ((entV (env ++ [(x, a)])).map pairV)), .w 672062 (.loc (s.length + 1)) (alS s x env a), .r 673098 K (.bool true)]) o fun k => by kernel_rfl
    | false => exact body_of (q := [.v 672042 (.lst ((entV env).map pairV)), .v 672061 (.lst ((entV (env ++ [(x, a)])).map pairV)), .w 672062 (.loc (s.length + 1)) (alS s x env a), .r 673098 K (.bool false)]) o fun k => by kernel_rfl
inductive AlI (σ : List Cell) (m0 : M) (t : List Int → Bool) (D xs : Rel) (m : M) (s : List Cell) : Prop
  | mk (τ : List Cell) (es : s = σ ++ τ) (fd : D.all t = xs.all t) (nm : NestM (S "row") (S "inner") m0 m) (ok : ∀ r ∈ xs, r ∈ D)
theorem al_for {b : Int → Bool} (he : getDc σ e = some (entV env)) (lE : env.length ≤ 100) (sD : ∀ r ∈ D, ∃ a, r = [a]) (hn : ∀ a : Int, ((env ++ [(x, a)]).map (·.1)).Nodup)
    (H : ∀ r ∈ D, ∀ σ' e', getDc σ' e' = some (entV (env ++ [(x, r.headD 0)])) → TrIs C K body h e' σ' (b (r.headD 0))) :
    ∃ m' s', ForP (ev C tab (K + 14)) (List.range σ.length) f__law_true.sc.names (tgA alO) (thenA alO) (D.map rowV) (alM x dom body h e) σ (cond (D.all fun r => b (r.headD 0)) .next (.ret (.bool false))) m' s' := by
  obtain ⟨f, m', s', rfl, k⟩ := for_ex (r := ev C tab (K + 14)) (lk := List.range σ.length) (nk := f__law_true.sc.names) (body := thenA alO) (y := S "row") (p := (tgA alO).pos) (g := rowV) (I := AlI σ (alM x dom body h e) (fun r => b (r.headD 0)) D) (E := fun f m s => f = cond (D.all fun r => b (r.headD 0)) .next (.ret (.bool false))) (by kernel_rfl)
    (fun m s i => by
      obtain ⟨τ, rfl, fd, _, _⟩ := i
      rw [fd]
      rfl)
    (fun r xs m s i => by
      obtain ⟨τ, rfl, fd, nm, ok⟩ := i
      obtain ⟨a, rfl⟩ := sD r (ok r (.head _))
      have nt := nm.turn (by kernel_rfl) (by kernel_rfl) (rowV [a])
      have t := al_body (C := C) (σ := σ) (K := K) nt (gd_ext τ he) lE (hn a) (H [a] (ok _ (.head _)) _ _ (dc_of ((List.getElem?_append_right (Nat.le_add_right _ 1)).trans (by rw [Nat.add_sub_cancel_left]; rfl))))
      rw [List.all_cons] at fd
      cases q : b a with
      | true =>
        rw [show b (([a] : List Int).headD 0) = true from q] at t fd
        exact ⟨_, _, _, t, τ ++ [.list [.tup [sv x, .int a]], .dict (entV (env ++ [(x, a)]))], List.append_assoc .., fd, .c _ _, fun z hz => ok z (.tail _ hz)⟩
      | false =>
        rw [show b (([a] : List Int).headD 0) = false from q] at t fd
        exact ⟨_, _, _, t, by rw [fd]; rfl⟩) D (m := alM x dom body h e) (σ := σ) ⟨[], (List.append_nil _).symm, rfl, .a, fun _ m => m⟩
  exact ⟨m', s', k []⟩
theorem tr_all {b : Int → Bool} (he : getDc σ e = some (entV env)) (h1 : SetIs C K dom h e σ D) (lE : env.length ≤ 100) (sD : ∀ r ∈ D, ∃ a, r = [a]) (hn : ∀ a : Int, ((env ++ [(x, a)]).map (·.1)).Nodup)
    (H : ∀ r ∈ D, ∀ σ' e', getDc σ' e' = some (entV (env ++ [(x, r.headD 0)])) → TrIs C K body h e' σ' (b (r.headD 0))) : TrIs C (K + 20) (.tup [sv "all", .tup [.tup [sv x, dom]], body]) h e σ (D.all fun r => b (r.headD 0)) := by
  obtain ⟨m', s', fp⟩ := al_for (C := C) (K := K) (dom := dom) (body := body) (h := h) he lE sD hn H
  cases q : D.all fun r => b (r.headD 0) with
  | true =>
    rw [q] at fp
    exact con_of (q := [.r 671044 K (relV D), .f 671028 .next m' s']) (fun _ e' => ob (ob (le20 K 13) h1) (ob fp e')) (by kernel_rfl)
  | false =>
    rw [q] at fp
    exact con_of (q := [.r 671044 K (relV D), .f 671028 (.ret (.bool false)) m' s']) (fun _ e' => ob (ob (le20 K 13) h1) (ob fp e')) (by kernel_rfl)
end
structure InstOk (p : Plan) (nm : List String) (H : List Rel) (α : String → List Int) : Prop where
  at_ : ∀ y ∈ p.names, nm.contains y = true ∧ H[nm.findIdx (· == y)]? = some ((α y).map fun a => [a]) ∧ (α y).length ≤ 10
  len : nm.length ≤ 1000
def supL (p : Plan) (x : String) : List String := cond (["C", "D"].contains x) ["A"] (supG p.part x)
def belL (p : Plan) (x : String) : List String := cond (x == "A") (kidsL p.kids) []
section
variable {C : Cx} {σ : List Cell} {p : Plan} {nm : List String} {H : List Rel} {α : String → List Int} {x y : String}
theorem InstOk.atoms (I : InstOk p nm H α) (hy : y ∈ p.names) : Con C tab 20 f__law_atoms [hereV H, .lst (strsV nm), sv y] σ (.lst ((α y).map .int)) σ := (I.at_ y hy).elim fun h1 h => l_atoms h1 I.len (Nat.le_trans h.2 (by decide)) h.1
theorem flat_ints (ys : List String) (α : String → List Int) : (ys.flatMap fun y => (α y).filterMap fun z => some (V.int z)) = (ys.flatMap α).map .int := by
  rw [List.map_flatMap]
  exact congrArg (ys.flatMap ·) (funext fun y => congrFun (List.filterMap_eq_map (f := V.int)) (α y))
abbrev sgA : Cmp := cmR f__law_sig_holds.body 2
abbrev sgB : Cmp := cmA (argA 1 (valA (stA f__law_sig_holds.body 4)))
theorem sg_above {s : List Cell} {n : Nat} (I : InstOk p nm H α) {ys : List String} (hy : ∀ y ∈ ys, y ∈ p.names) (l : (ys.flatMap α).length ≤ 100000) : NestP (ev C tab 56) (List.range n) sgA.sc.names sgA.elt sgA.tgt sgA.tgt2 sgA.iter2 sgA.ifs sgA.ifs2 (strsV ys) [(S "here", hereV H), (S "names", .lst (strsV nm))] s ((ys.flatMap α).map .int) :=
  flat_ints ys α ▸ NestP_of (σ := s) (r := ev C tab 56) (lk := List.range n) sgA (y := S "one") (y2 := S "a") (m0 := [(S "here", hereV H), (S "names", .lst (strsV nm))]) (xs := ys) sv V.int (fun _ z => some (.int z)) α (fun _ => []) (by kernel_rfl) (by kernel_rfl) (by kernel_rfl) (by kernel_rfl) (by kernel_rfl) (by kernel_rfl) (by kernel_rfl) (by kernel_rfl) l
    (fun y m _ hm => by
      have c := I.atoms (C := C) (σ := s) (hy y m)
      cases hm with
      | a => exact turn2_of (q := [.c 682070 20 (.lst ((α y).map .int))]) (fun _ e => ob c e) fun k => by kernel_rfl
      | b w => exact turn2_of (q := [.c 682070 20 (.lst ((α y).map .int))]) (fun _ e => ob c e) fun k => by kernel_rfl)
    fun y _ z _ => turn_of (q := []) (fun _ e => e) fun k => by kernel_rfl
theorem sg_below {s : List Cell} {n : Nat} (I : InstOk p nm H α) {ys : List String} (hy : ∀ y ∈ ys, y ∈ p.names) (l : (ys.flatMap α).length ≤ 100000) : NestP (ev C tab 53) (List.range n) sgB.sc.names sgB.elt sgB.tgt sgB.tgt2 sgB.iter2 sgB.ifs sgB.ifs2 (strsV ys) [(S "here", hereV H), (S "names", .lst (strsV nm))] s ((ys.flatMap α).map .int) :=
  flat_ints ys α ▸ NestP_of (σ := s) (r := ev C tab 53) (lk := List.range n) sgB (y := S "kid") (y2 := S "a") (m0 := [(S "here", hereV H), (S "names", .lst (strsV nm))]) (xs := ys) sv V.int (fun _ z => some (.int z)) α (fun _ => []) (by kernel_rfl) (by kernel_rfl) (by kernel_rfl) (by kernel_rfl) (by kernel_rfl) (by kernel_rfl) (by kernel_rfl) (by kernel_rfl) l
    (fun y m _ hm => by
      have c := I.atoms (C := C) (σ := s) (hy y m)
      cases hm with
      | a => exact turn2_of (q := [.c 685076 20 (.lst ((α y).map .int))]) (fun _ e => ob c e) fun k => by kernel_rfl
      | b w => exact turn2_of (q := [.c 685076 20 (.lst ((α y).map .int))]) (fun _ e => ob c e) fun k => by kernel_rfl)
    fun y _ z _ => turn_of (q := []) (fun _ e => e) fun k => by kernel_rfl
abbrev sgF : Cmp := cmA (argA 0 (valA (stA f__law_sig_holds.body 8)))
abbrev sgG : Cmp := cmA (argA 0 (argA 1 (argA 0 (sgF.ifs.headD noE))))
abbrev mm (s : String) (rows : Rel) (a : Int) : Bool := manyB s (rows.filter fun r => r.headD 0 == a).length
theorem sg_rows {rows : Rel} {a : Int} {s : List Cell} {lk : List Nat} (hr : ∀ r ∈ rows, r ≠ []) (l : rows.length ≤ 1000) : TurnsP (ev C tab 41) lk sgG.sc.names sgG.elt sgG.tgt sgG.ifs (rows.map rowV) [(S "a", .int a)] s ((rows.filter fun r => r.headD 0 == a).map rowV) :=
  comp_fil (σ := s) (r := ev C tab 41) (lk := lk) sgG (y := S "row") (m0 := [(S "a", .int a)]) (xs := rows) rowV rowV (fun r => r.headD 0 == a) (by kernel_rfl) (by kernel_rfl) (by kernel_rfl) (Nat.le_trans l (by decide)) fun r m => by
    cases r with
    | nil => exact absurd rfl (hr _ m)
    | cons b r =>
      have i := ix_head (r := b :: r) (b := b) rfl s
      cases q : b == a with
      | true =>
        rw [show (List.headD (b :: r) 0 == a) = true from q]
        exact turn_of (q := [.v 691092 (.int b), .b 691097 true]) (fun _ e => ob i (ob (congrArg some q) e)) fun k => by kernel_rfl
      | false =>
        rw [show (List.headD (b :: r) 0 == a) = false from q]
        exact turn_of (q := [.v 691092 (.int b), .b 691097 false]) (fun _ e => ob i (ob (congrArg some q) e)) fun k => by kernel_rfl
theorem sg_fact {rows : Rel} {as : List Int} {s : List Cell} {n : Nat} (hf : ManyS p.fact) (hr : ∀ r ∈ rows, r ≠ []) (l : rows.length ≤ 1000) (la : as.length ≤ 1000) : TurnsP (ev C tab 49) (List.range n) sgF.sc.names sgF.elt sgF.tgt sgF.ifs (as.map .int) [(S "rows", relV rows), (S "plan", planV p)] s ((as.filter fun a => !mm p.fact rows a).map .int) :=
  comp_fil (σ := s) (r := ev C tab 49) (lk := List.range n) sgF (y := S "a") (m0 := [(S "rows", relV rows), (S "plan", planV p)]) (xs := as) V.int V.int (fun a => !mm p.fact rows a) (by kernel_rfl) (by kernel_rfl) (by kernel_rfl) (Nat.le_trans la (by decide)) fun a _ => by
    have c := l_many (C := C) (σ := s) (c := (rows.filter fun r => r.headD 0 == a).length) hf
    have t := sg_rows (C := C) (a := a) (s := s) (lk := List.range n) hr l
    have ln := (len_of (σ := s) (d := .lst ((rows.filter fun r => r.headD 0 == a).map rowV)) rfl (by rw [List.length_map]; exact Nat.le_trans (List.length_filter_le ..) (Nat.le_trans l (by decide)))).trans (congrArg (fun n : Nat => some (V.int n, s)) (List.length_map (as := rows.filter fun r => r.headD 0 == a) rowV))
    have o := fun E (e : E) => ob t (ob ln (ob c e))
    unfold mm at o ⊢
    cases q : manyB p.fact (rows.filter fun r => r.headD 0 == a).length with
    | true => rw [q] at o; exact turn_of (q := [.l 691098 ((rows.filter fun r => r.headD 0 == a).map rowV), .w 691099 (.int (rows.filter fun r => r.headD 0 == a).length) s, .c 691100 12 (.bool true)]) o fun k => by kernel_rfl
    | false => rw [q] at o; exact turn_of (q := [.l 691098 ((rows.filter fun r => r.headD 0 == a).map rowV), .w 691099 (.int (rows.filter fun r => r.headD 0 == a).length) s, .c 691100 12 (.bool false)]) o fun k => by kernel_rfl
theorem add_strs {a b : String} {s : List Cell} (l : (S a).length + (S b).length ≤ 1000) : evBop .Add (sv a) (sv b) s = some (sv (a ++ b)) :=
  (grd_of (Nat.ble_eq_true_of_le l) : evBop .Add (sv a) (sv b) s = some (.str (S a ++ S b))).trans (congrArg (fun x => some (V.str x)) (cat_lit a b))
abbrev m6 (p : Plan) (nm : List String) (H : List Rel) (as : List Int) (x : String) (A B U : V) : M := [(S "below", B), (S "above", A), (S "supers", U), (S "own", .lst (as.map .int)), (S "plan", planV p), (S "name", sv x), (S "here", hereV H), (S "names", .lst (strsV nm))]
def factB (p : Plan) (x : String) (as : List Int) (rows : Rel) : Bool := !(x == p.owner) || (p.fact == "" || as.all (mm p.fact rows))
abbrev sgN : Nk := f__law_sig_holds.sc.names
abbrev SgT (C : Cx) (p : Plan) (nm : List String) (H : List Rel) (as : List Int) (x : String) (n : Nat) (R : Bool) : Prop := ∀ s A B U, ∃ m' s', To2 (Seg (ev C tab 54) (List.range n) sgN 688019 (f__law_sig_holds.body.drop 6) (m6 p nm H as x A B U) s) (.ret (.bool R)) m' s'
theorem sg_tail {rows : Rel} {as : List Int} {n : Nat} (hf : ManyS p.fact) (hr : ∀ r ∈ rows, r ≠ []) (l : rows.length ≤ 1000) (la : as.length ≤ 1000) (lx : (S x).length + (S ".f").length ≤ 1000) (hi : x == p.owner → nm.contains (x ++ ".f") = true ∧ H[nm.findIdx (· == x ++ ".f")]? = some rows) (ln : nm.length ≤ 1000) :
    SgT C p nm H as x n (factB p x as rows) := by
  intro s A B U
  unfold factB
  cases q1 : x == p.owner with
  | false => exact ⟨_, _, seg_of (m' := m6 p nm H as x A B U) (σ' := s) (q := [.b 688028 true]) (fun _ e => ob (ne_strs s q1) e) fun k => by kernel_rfl⟩
  | true => cases q2 : p.fact == "" with
    | true => exact ⟨_, _, seg_of (m' := m6 p nm H as x A B U) (σ' := s) (q := [.b 688028 false, .b 688050 true]) (fun _ e => ob (ne_strs s q1) (ob (eq_strs s q2) e)) fun k => by kernel_rfl⟩
    | false =>
      obtain ⟨h1, h2⟩ := hi q1
      have i1 := idx_of (σ := s) (lk := List.range n) h1 (Nat.le_trans ln (by decide))
      have i2 := at_of (σ := s) (xs := H.map relV) ((List.getElem?_map ..).trans (congrArg (·.map relV) h2)) (Nat.lt_of_le_of_lt (Nat.le_trans List.findIdx_le_length ln) (by decide))
      have t := sg_fact (C := C) (p := p) (as := as) (s := s) (n := n) hf hr l la
      exact ⟨_, _, seg_of (m' := (S "rows", relV rows) :: m6 p nm H as x A B U) (σ' := s ++ [.list []]) (q := [.b 688028 false, .b 688050 false, .v 690039 (sv (x ++ ".f")), .w 690040 (.int (nm.findIdx (· == x ++ ".f") : Nat)) s, .v 690041 (relV rows), .l 691101 ((as.filter fun a => !mm p.fact rows a).map .int), .b 691107 (as.all (mm p.fact rows))])
        (fun _ e => ob (ne_strs s q1) (ob (eq_strs s q2) (ob (add_strs (s := s) lx) (ob i1 (ob i2 (ob t (ob (eq_nil (σ := s) (pls_fil _ fun _ _ => pl_int) (fil_all (mm p.fact rows) as V.int)) e))))))) fun k => by kernel_rfl⟩
abbrev sgH : Cmp := cmA (argA 0 (argA 3 (argA 1 (valA (stA f__law_sig_holds.body 5)))))
theorem in_ints {a : Int} (bs : List Int) {b : Bool} {s : List Cell} (h : bs.contains a = b) : evCop .NotIn (.int a) (.lst (bs.map .int)) s = some (!b) := by
  show (grd (V.pls 40 (bs.map V.int) && true) ((bs.map V.int).any fun y => veq y (.int a))).map (!·) = _
  rw [pls_ints, any_ints, h]
  rfl
theorem sg_out {as bs : List Int} {s : List Cell} {n : Nat} (la : as.length ≤ 1000) : TurnsP (ev C tab 50) (List.range n) sgH.sc.names sgH.elt sgH.tgt sgH.ifs (as.map .int) [(S "below", .lst (bs.map .int))] s ((as.filter fun a => !bs.contains a).map .int) :=
  comp_fil (σ := s) (r := ev C tab 50) (lk := List.range n) sgH (y := S "a") (m0 := [(S "below", .lst (bs.map .int))]) (xs := as) V.int V.int (fun a => !bs.contains a) (by kernel_rfl) (by kernel_rfl) (by kernel_rfl) (Nat.le_trans la (by decide)) fun a _ => by
    cases q : bs.contains a with
    | true => exact turn_of (q := [.b 686137 false]) (fun _ e => ob (in_ints (s := s) bs q) e) fun k => by kernel_rfl
    | false => exact turn_of (q := [.b 686137 true]) (fun _ e => ob (in_ints (s := s) bs q) e) fun k => by kernel_rfl
theorem kids_nil (s : List Cell) {l : List String} {b : Bool} (h : l.isEmpty = b) : evCop .NotEq (.tup (strsV l)) (.tup []) s = some (!b) := by
  show (grd (V.pls 39 (strsV l) && true) (PyData.eqvAll (V.pys (strsV l)) [])).map (!·) = _
  rw [pls_strs]
  exact congrArg (fun b => some (!b)) ((by cases l <;> rfl : PyData.eqvAll (V.pys (strsV l)) [] = l.isEmpty).trans h)
theorem diff_of {bs : List Int} {s : List Cell} (l : bs.length ≤ 100) : specV s (.lst (bs.map .int)) false = some (.int (nDiff bs)) := by
  show (intsOf (bs.map V.int)).bind (fun ns => grd (Nat.ble ns.length 100) (V.int (nDiff ns))) = _
  rw [show intsOf (bs.map V.int) = some bs from by
    clear l
    induction bs with
    | nil => rfl
    | cons b bs ih => exact (congrArg (fun o : Option (List Int) => o.map (b :: ·)) ih).trans rfl]
  exact grd_of (Nat.ble_eq_true_of_le l)
theorem ne_nil {σ : List Cell} {xs : List V} {b : Bool} (hp : V.pls 39 xs = true) (h : xs.isEmpty = b) : evCop .NotEq (.lst xs) (.loc σ.length) (σ ++ [.list []]) = some (!b) := congrArg (fun o : Option Bool => o.map (!·)) (eq_nil (σ := σ) hp h)
def midB (p : Plan) (as bs : List Int) : Bool := ((bs.length : Int) == (nDiff bs : Int)) && !(p.ab && (!(kidsL p.kids).isEmpty && !as.all bs.contains))
theorem sg_mid {as bs : List Int} {A U : V} {n : Nat} {R : Bool} {s : List Cell} (la : as.length ≤ 1000) (lb : bs.length ≤ 100) (tail : SgT C p nm H as "A" n R) :
    ∃ m' s', To2 (Seg (ev C tab 55) (List.range n) sgN 686020 (f__law_sig_holds.body.drop 5) (m6 p nm H as "A" A (.lst (bs.map .int)) U) s) (.ret (.bool (midB p as bs && R))) m' s' := by
  have w := (len_of (σ := s) (d := .lst (bs.map .int)) rfl (by rw [List.length_map]; exact Nat.le_trans lb (by decide))).trans (congrArg (fun n : Nat => some (V.int n, s)) (List.length_map (as := bs) V.int))
  have d := diff_of (s := s) lb
  have o := fun E (b : Bool) (q1 : ((bs.length : Int) == (nDiff bs : Int)) = b) (e : E) => ob w (ob d (ob (congrArg (fun b => some (!b)) q1) e))
  unfold midB
  cases q1 : (bs.length : Int) == (nDiff bs : Int) with
  | false => exact ⟨_, _, seg_of (m' := m6 p nm H as "A" A (.lst (bs.map .int)) U) (σ' := s) (q := [.w 686017 (.int bs.length) s, .v 686036 (.int (nDiff bs)), .b 686036 true]) (fun E e => o E _ q1 e) fun k => by kernel_rfl⟩
  | true =>
    obtain ⟨m', s', t⟩ := tail s A (.lst (bs.map .int)) U
    cases q2 : p.ab with
    | false => exact ⟨m', s', seg_seq t (q1 := fun q => .w 686017 (.int bs.length) s :: .v 686036 (.int (nDiff bs)) :: .b 686036 false :: .t 686073 false :: .m 688019 :: q) (fun E e => o _ _ q1 (ob (congrArg some q2) e)) fun k q => by kernel_rfl⟩
    | true =>
      cases q3 : (kidsL p.kids).isEmpty with
      | true => exact ⟨m', s', seg_seq t (q1 := fun q => .w 686017 (.int bs.length) s :: .v 686036 (.int (nDiff bs)) :: .b 686036 false :: .t 686073 true :: .b 686097 false :: .m 688019 :: q) (fun E e => o _ _ q1 (ob (congrArg some q2) (ob (kids_nil s q3) e))) fun k q => by kernel_rfl⟩
      | false =>
        have l := sg_out (C := C) (as := as) (bs := bs) (s := s) (n := n) la
        have z := fun b (q : as.all bs.contains = b) => ne_nil (σ := s) (pls_fil _ fun _ _ => pl_int) ((fil_all bs.contains as V.int).trans q)
        cases q4 : as.all bs.contains with
        | true =>
          obtain ⟨m', s', t⟩ := tail (s ++ [.list []]) A (.lst (bs.map .int)) U
          exact ⟨m', s', seg_seq t (q1 := fun q => .w 686017 (.int bs.length) s :: .v 686036 (.int (nDiff bs)) :: .b 686036 false :: .t 686073 true :: .b 686097 true :: .l 686138 ((as.filter fun a => !bs.contains a).map .int) :: .b 686144 false :: .m 688019 :: q) (fun E e => o _ _ q1 (ob (congrArg some q2) (ob (kids_nil s q3) (ob l (ob (z _ q4) e))))) fun k q => by kernel_rfl⟩
        | false => exact ⟨_, _, seg_of (m' := m6 p nm H as "A" A (.lst (bs.map .int)) U) (σ' := s ++ [.list []]) (q := [.w 686017 (.int bs.length) s, .v 686036 (.int (nDiff bs)), .b 686036 false, .t 686073 true, .b 686097 true, .l 686138 ((as.filter fun a => !bs.contains a).map .int), .b 686144 true]) (fun E e => o _ _ q1 (ob (congrArg some q2) (ob (kids_nil s q3) (ob l (ob (z _ q4) e))))) fun k => by kernel_rfl⟩
theorem sg_midN {as : List Int} {A U : V} {n : Nat} {R : Bool} {s : List Cell} (hx : (x == "A") = false) (tail : SgT C p nm H as x n R) :
    ∃ m' s', To2 (Seg (ev C tab 55) (List.range n) sgN 686020 (f__law_sig_holds.body.drop 5) (m6 p nm H as x A (.loc s.length) U) (s ++ [.list []])) (.ret (.bool R)) m' s' := by
  obtain ⟨m', s', t⟩ := tail (s ++ [.list []]) A (.loc s.length) U
  have g := gl_of (get_new (σ := s) (c := .list []))
  exact ⟨m', s', seg_seq t (q1 := fun q => .w 686017 (.int 0) (s ++ [.list []]) :: .v 686036 (.int 0) :: .b 686052 false :: .m 688019 :: q) (fun E e => ob (len_of (σ := s ++ [.list []]) g (by decide)) (ob (congrArg (fun o : Option (List V) => o.bind fun xs => (intsOf xs).bind fun ns => grd (Nat.ble ns.length 100) (V.int (nDiff ns))) g) (ob (eq_strs (s ++ [.list []]) hx) e))) fun k q => by kernel_rfl⟩
abbrev m5 (p : Plan) (nm : List String) (H : List Rel) (as : List Int) (x : String) (A U : V) : M := [(S "above", A), (S "supers", U), (S "own", .lst (as.map .int)), (S "plan", planV p), (S "name", sv x), (S "here", hereV H), (S "names", .lst (strsV nm))]
theorem kids_names {y : String} (h : y ∈ kidsL p.kids) : y ∈ p.names := List.mem_append_right _ (List.mem_append_left _ h)
def midS (p : Plan) (α : String → List Int) (x : String) : Bool := cond (x == "A") (midB p (α x) ((kidsL p.kids).flatMap α)) true
theorem sg_low {A U : V} {n : Nat} {R : Bool} {s : List Cell} (I : InstOk p nm H α) (la : (α x).length ≤ 1000) (lb : ((kidsL p.kids).flatMap α).length ≤ 100) (tail : SgT C p nm H (α x) x n R) :
    ∃ m' s', To2 (Seg (ev C tab 56) (List.range n) sgN 685100 (f__law_sig_holds.body.drop 4) (m5 p nm H (α x) x A U) s) (.ret (.bool (midS p α x && R))) m' s' := by
  unfold midS
  cases q : x == "A" with
  | true =>
    obtain rfl := eq_of_beq q
    obtain ⟨m', s', t⟩ := sg_mid (C := C) (A := A) (U := U) (s := s) la lb tail
    exact ⟨m', s', seg_seq t (q1 := fun q => .b 685092 true :: .l 685077 (((kidsL p.kids).flatMap α).map .int) :: .m 686020 :: q) (fun E e => ob (eq_strs s q) (ob (sg_below (C := C) (s := s) (n := n) I (fun y => kids_names) (Nat.le_trans lb (by decide))) e)) fun k q => by kernel_rfl⟩
  | false =>
    obtain ⟨m', s', t⟩ := sg_midN (C := C) (A := A) (U := U) (s := s) q tail
    exact ⟨m', s', seg_seq t (q1 := fun q => .b 685092 false :: .m 686020 :: q) (fun E e => ob (eq_strs s q) e) fun k q => by kernel_rfl⟩
abbrev sgK : Cmp := cmA (argA 0 (argA 1 (argA 0 (valA (stA f__law_sig_holds.body 3)))))
theorem sg_ab {as bs : List Int} {s : List Cell} {n : Nat} (la : as.length ≤ 1000) : TurnsP (ev C tab 52) (List.range n) sgK.sc.names sgK.elt sgK.tgt sgK.ifs (as.map .int) [(S "above", .lst (bs.map .int))] s ((as.filter fun a => !bs.contains a).map .int) :=
  comp_fil (σ := s) (r := ev C tab 52) (lk := List.range n) sgK (y := S "a") (m0 := [(S "above", .lst (bs.map .int))]) (xs := as) V.int V.int (fun a => !bs.contains a) (by kernel_rfl) (by kernel_rfl) (by kernel_rfl) (Nat.le_trans la (by decide)) fun a _ => by
    cases q : bs.contains a with
    | true => exact turn_of (q := [.b 683057 false]) (fun _ e => ob (in_ints (s := s) bs q) e) fun k => by kernel_rfl
    | false => exact turn_of (q := [.b 683057 true]) (fun _ e => ob (in_ints (s := s) bs q) e) fun k => by kernel_rfl
abbrev SgU (C : Cx) (p : Plan) (nm : List String) (H : List Rel) (as : List Int) (x : String) (n : Nat) (A U : V) (R : Bool) : Prop := ∀ s, ∃ m' s', To2 (Seg (ev C tab 56) (List.range n) sgN 685100 (f__law_sig_holds.body.drop 4) (m5 p nm H as x A U) s) (.ret (.bool R)) m' s'
def supB (as bs : List Int) (sup : List String) : Bool := sup.isEmpty || as.all bs.contains
theorem sg_up {as bs : List Int} {n : Nat} {R : Bool} {s : List Cell} {mu : String} {sup : List String} (hu : muV p x = some (sv mu)) (hm : ManyS mu) (la : as.length ≤ 1000) (tail : SgU C p nm H as x n (.lst (bs.map .int)) (.tup (strsV sup)) R) :
    ∃ m' s', To2 (Seg (ev C tab 57) (List.range n) sgN 683020 (f__law_sig_holds.body.drop 3) (m5 p nm H as x (.lst (bs.map .int)) (.tup (strsV sup))) s) (.ret (.bool (supB as bs sup && (manyB mu as.length && R)))) m' s' := by
  have w := fun s => (len_of (σ := s) (d := .lst (as.map .int)) rfl (by rw [List.length_map]; exact Nat.le_trans la (by decide))).trans (congrArg (fun n : Nat => some (V.int n, s)) (List.length_map (as := as) V.int))
  have c := fun s => l_many (C := C) (σ := s) (c := as.length) hm
  have o := fun s E b (h : manyB mu as.length = b) (e : E) => ob (ixd_of (σ := s) hu) (ob (w s) (ob (h ▸ c s) e))
  unfold supB
  cases q1 : sup.isEmpty with
  | true => cases q2 : manyB mu as.length with
    | true =>
      obtain ⟨m', s', t⟩ := tail s
      exact ⟨m', s', seg_seq t (q1 := fun q => .b 683019 false :: .v 683101 (sv mu) :: .w 683111 (.int as.length) s :: .c 683112 12 (.bool true) :: .m 685100 :: q) (fun E e => ob (kids_nil s q1) (o s _ _ q2 e)) fun k q => by kernel_rfl⟩
    | false => exact ⟨_, _, seg_of (m' := m5 p nm H as x (.lst (bs.map .int)) (.tup (strsV sup))) (σ' := s) (q := [.b 683019 false, .v 683101 (sv mu), .w 683111 (.int as.length) s, .c 683112 12 (.bool false)]) (fun E e => ob (kids_nil s q1) (o s _ _ q2 e)) fun k => by kernel_rfl⟩
  | false =>
    have z := fun b (q : as.all bs.contains = b) => ne_nil (σ := s) (pls_fil _ fun _ _ => pl_int) ((fil_all bs.contains as V.int).trans q)
    have l := sg_ab (C := C) (as := as) (bs := bs) (s := s) (n := n) la
    cases q3 : as.all bs.contains with
    | true => cases q2 : manyB mu as.length with
      | true =>
        obtain ⟨m', s', t⟩ := tail (s ++ [.list []])
        exact ⟨m', s', seg_seq t (q1 := fun q => .b 683019 true :: .l 683058 ((as.filter fun a => !bs.contains a).map .int) :: .b 683064 false :: .v 683101 (sv mu) :: .w 683111 (.int as.length) (s ++ [.list []]) :: .c 683112 12 (.bool true) :: .m 685100 :: q) (fun E e => ob (kids_nil s q1) (ob l (ob (z _ q3) (o (s ++ [.list []]) _ _ q2 e)))) fun k q => by kernel_rfl⟩
      | false => exact ⟨_, _, seg_of (m' := m5 p nm H as x (.lst (bs.map .int)) (.tup (strsV sup))) (σ' := s ++ [.list []]) (q := [.b 683019 true, .l 683058 ((as.filter fun a => !bs.contains a).map .int), .b 683064 false, .v 683101 (sv mu), .w 683111 (.int as.length) (s ++ [.list []]), .c 683112 12 (.bool false)]) (fun E e => ob (kids_nil s q1) (ob l (ob (z _ q3) (o (s ++ [.list []]) _ _ q2 e)))) fun k => by kernel_rfl⟩
    | false => exact ⟨_, _, seg_of (m' := m5 p nm H as x (.lst (bs.map .int)) (.tup (strsV sup))) (σ' := s ++ [.list []]) (q := [.b 683019 true, .l 683058 ((as.filter fun a => !bs.contains a).map .int), .b 683064 true]) (fun E e => ob (kids_nil s q1) (ob l (ob (z _ q3) e))) fun k => by kernel_rfl⟩
def sigB (p : Plan) (α : String → List Int) (mu x : String) (rows : Rel) : Bool := supB (α x) ((supL p x).flatMap α) (supL p x) && (manyB mu (α x).length && (midS p α x && factB p x (α x) rows))
theorem sig_ok {mu : String} {rows : Rel} (I : InstOk p nm H α) (hx : x ∈ p.names) (hu : muV p x = some (sv mu)) (hm : ManyS mu) (hf : ManyS p.fact) (hk : p.part ≤ 2) (hs : ∀ y ∈ supL p x, y ∈ p.names) (ls : ((supL p x).flatMap α).length ≤ 100000) (lb : ((kidsL p.kids).flatMap α).length ≤ 100) (hr : ∀ r ∈ rows, r ≠ []) (l : rows.length ≤ 1000) (lx : (S x).length + (S ".f").length ≤ 1000) (hi : x == p.owner → nm.contains (x ++ ".f") = true ∧ H[nm.findIdx (· == x ++ ".f")]? = some rows) :
    Con C tab 60 f__law_sig_holds [planV p, sv x, hereV H, .lst (strsV nm)] σ (.bool (sigB p α mu x rows)) σ := by
  have la : (α x).length ≤ 1000 := Nat.le_trans (I.at_ x hx).2.2 (by decide)
  obtain ⟨m', s', t⟩ := sg_up (C := C) (s := σ) (n := σ.length) (bs := (supL p x).flatMap α) (sup := supL p x) hu hm la (fun s => sg_low (A := .lst (((supL p x).flatMap α).map .int)) (U := .tup (strsV (supL p x))) (s := s) I la lb (sg_tail (C := C) (n := σ.length) hf hr l la lx hi I.len))
  have a := I.atoms (C := C) (σ := σ) hx
  have n := sg_above (C := C) (s := σ) (n := σ.length) I hs ls
  have c := l_parent (C := C) (σ := σ) (x := x) (plan := planV p)
  unfold supL at t n
  unfold parS at c
  unfold sigB supL
  cases h : ["C", "D"].contains x with
  | true =>
    rw [h] at t n c
    exact con_seq t ⟨rfl, rfl⟩ (q1 := fun q => .c 680039 20 (.lst ((α x).map .int)) :: .c 681066 20 (sv "A") :: .c 681037 20 (sv "A") :: .l 682071 (((["A"]).flatMap α).map .int) :: .m 683020 :: q) (fun E e => ob a (ob c (ob c (ob n e)))) fun q => by kernel_rfl
  | false =>
    rw [h] at t n c
    exact con_seq t ⟨rfl, rfl⟩ (q1 := fun q => .c 680039 20 (.lst ((α x).map .int)) :: .c 681066 20 (sv "") :: .c 681101 20 (.tup (strsV (supG p.part x))) :: .l 682071 (((supG p.part x).flatMap α).map .int) :: .m 683020 :: q) (fun E e => ob a (ob c (ob (l_supers (C := C) (σ := σ) (x := x) hk) (ob n e)))) fun q => by kernel_rfl
end
section
variable {r : Ev} {lk : List Nat} {σ : List Cell}
theorem comp_filC {α : Type} (c : Cmp) {y : Str} {m0 : M} {xs : List α} (g f : α → V) (t : α → Bool) {i : Expr} (hi : c.ifs = [i]) (ht : nmA c.tgt = some y) (hs : stoOk c.sc.names y = true) (hm : rm y m0 = m0) (l : xs.length ≤ 100000) (he : ∀ x q k, r.e lk c.sc.names c.elt q ((y, g x) :: m0) σ k = k q (f x) σ) (hb : ∀ x ∈ xs, To1 (fun q => r.b lk c.sc.names i q ((y, g x) :: m0) σ) (t x) σ) : TurnsP r lk c.sc.names c.elt c.tgt c.ifs (xs.map g) m0 σ ((xs.filter t).map f) :=
  comp_fil c g f t ht hs hm l fun x m k hk => by
    refine hi ▸ hb x m (fun q b σ => cnd b (evIfs r lk c.sc.names [] q ((y, g x) :: m0) σ fun q b σ => cnd b (r.e lk c.sc.names c.elt q ((y, g x) :: m0) σ fun q d σ => k q (some d) σ) (k q none σ)) (cnd false (r.e lk c.sc.names c.elt q ((y, g x) :: m0) σ fun q d σ => k q (some d) σ) (k q none σ))) ?_
    cases e : t x with
    | true => rw [e] at hk; exact (he x _ _).mpr hk
    | false => rw [e] at hk; exact hk
theorem test_of {nk : Nk} {e : Expr} {q : Qu} {m : M} {b : Bool} {P : Prop → Prop} (p : ∀ E, E → P E) (e' : ∀ k, r.b lk nk e q m σ k = P (k [] b σ)) : To1 (fun q => r.b lk nk e q m σ) b σ := fun k hk => ⟨q, (e' k).mpr (p _ hk)⟩
end
def wholeL (α : String → List Int) : Nat → List Int
  | 0 => α "B"
  | 1 => α "A"
  | _ => α "A" ++ α "B"
def r0 (r : List Int) : Int := r.headD 0
def r1 (r : List Int) : Int := r.tail.headD 0
def mult1 (p : Plan) : String := cond (p.mult == "") "one" p.mult
def valB (p : Plan) (α : String → List Int) (W : Rel) : Bool :=
  cond (decide ((p.kind : Int) < 3)) (W.all (fun r => (wholeL α p.kind).contains (r0 r)) && manyB (mult1 p) W.length)
    (W.all (fun r => (α "B").contains (r0 r) && (α "A").contains (r1 r)) && ((α "B").all (fun o => manyB p.right (W.filter fun r => r0 r == o).length) && (α "A").all fun o => manyB p.left (W.filter fun r => r1 r == o).length))
section
variable {C : Cx} {σ s : List Cell} {p : Plan} {nm : List String} {H : List Rel} {α : String → List Int} {x y : String} {W : Rel} {as bs : List Int} {n : Nat}
theorem whole_at {k : Nat} (h : decide ((k : Int) < 3) = true) : evIdx (.loc σ.length) (.int k) (σ ++ [.list [.lst ((α "B").map .int), .lst ((α "A").map .int), .lst ((α "A" ++ α "B").map .int)]]) = some (.lst ((wholeL α k).map .int)) := by
  show (getL _ _).bind _ = _
  rw [gl_of get_new]
  match k, h with
  | 0, _ => rfl
  | 1, _ => rfl
  | 2, _ => rfl
theorem add_ints (l : as.length + bs.length ≤ 100000) : evBop .Add (.lst (as.map .int)) (.lst (bs.map .int)) s = some (.lst ((as ++ bs).map .int)) := by
  show grd (Nat.ble ((as.map V.int).length + (bs.map V.int).length) 100000) (V.lst (as.map V.int ++ bs.map V.int)) = _
  rw [List.length_map, List.length_map, ← List.map_append]
  exact grd_of (Nat.ble_eq_true_of_le l)
abbrev vaB (i : Nat) : Cmp := cmA (argA 0 (valA (stA f__law_value_holds.body i)))
abbrev vaW : Cmp := cmA (argA 0 (valA (stA (thenA (stA f__law_value_holds.body 1)) 1)))
abbrev vaC (i : Nat) : Cmp := cmA (argA 0 (argA 1 (argA 0 ((vaB i).ifs.headD noE))))
theorem le5 {n : Nat} (h : n ≤ 1000) : n ≤ 100000 := Nat.le_trans h (by decide)
theorem ix0 {r : List Int} (h : r ≠ []) (s : List Cell) : evIdx (rowV r) (.int 0) s = some (.int (r0 r)) := by
  cases r with
  | nil => exact absurd rfl h
  | cons a r => exact ix_head rfl s
theorem ix1 {r : List Int} (h : r.tail ≠ []) (s : List Cell) : evIdx (rowV r) (.int 1) s = some (.int (r1 r)) := by
  match r, h with
  | [], h => exact absurd rfl h
  | [a], h => exact absurd rfl h
  | a :: b :: r, _ => exact at_of (σ := s) (xs := (a :: b :: r).map .int) (i := 1) rfl (by decide)
theorem t_ne {r : List Int} (h : r.tail ≠ []) : r ≠ [] := fun e => h (congrArg List.tail e)
theorem len_map {α : Type} {g : α → V} {xs : List α} (h : xs.length ≤ 100000) (s : List Cell) : evBui .len [.lst (xs.map g)] s = some (.int xs.length, s) := (len_of (σ := s) (d := .lst (xs.map g)) rfl (by rw [List.length_map]; exact h)).trans (congrArg (fun n : Nat => some (V.int n, s)) (List.length_map (as := xs) g))
theorem va_whole {w : List Int} (h : ∀ r ∈ W, r ≠ []) (l : W.length ≤ 1000) : TurnsP (ev C tab 54) (List.range n) vaW.sc.names vaW.elt vaW.tgt vaW.ifs (W.map rowV) [(S "whole", .lst (w.map .int))] s ((W.filter fun r => !w.contains (r0 r)).map rowV) :=
  comp_filC (y := S "row") vaW rowV rowV (fun r => !w.contains (r0 r)) (by kernel_rfl : vaW.ifs = [vaW.ifs.headD noE]) (by kernel_rfl) (by kernel_rfl) (by kernel_rfl) (le5 l) (fun _ _ _ => by kernel_rfl) fun r m => test_of (q := [.v 696042 (.int (r0 r)), .b 696055 (!w.contains (r0 r))]) (fun _ e => ob (ix0 (h r m) s) (ob (in_ints (a := r0 r) (s := s) w rfl) e)) fun k => by kernel_rfl
theorem va_pair (h : ∀ r ∈ W, r.tail ≠ []) (l : W.length ≤ 1000) : TurnsP (ev C tab 55) (List.range n) (vaB 2).sc.names (vaB 2).elt (vaB 2).tgt (vaB 2).ifs (W.map rowV) [(S "b", .lst (bs.map .int)), (S "a", .lst (as.map .int))] s ((W.filter fun r => !(bs.contains (r0 r) && as.contains (r1 r))).map rowV) :=
  comp_filC (y := S "row") (vaB 2) rowV rowV (fun r => !(bs.contains (r0 r) && as.contains (r1 r))) (by kernel_rfl : (vaB 2).ifs = [(vaB 2).ifs.headD noE]) (by kernel_rfl) (by kernel_rfl) (by kernel_rfl) (le5 l) (fun _ _ _ => by kernel_rfl) fun r m => by
    cases q : bs.contains (r0 r) with
    | false => exact test_of (q := [.v 699038 (.int (r0 r)), .b 699047 true]) (fun _ e => ob (ix0 (t_ne (h r m)) s) (ob (in_ints (s := s) bs q) e)) fun k => by kernel_rfl
    | true =>
      have o := fun E (e : E) b (q2 : as.contains (r1 r) = b) => ob (ix0 (t_ne (h r m)) s) (ob (in_ints (s := s) bs q) (ob (ix1 (h r m) s) (ob (in_ints (s := s) as q2) e)))
      cases q2 : as.contains (r1 r) with
      | true => exact test_of (q := [.v 699038 (.int (r0 r)), .b 699047 false, .v 699057 (.int (r1 r)), .b 699066 false]) (fun E e => o E e _ q2) fun k => by kernel_rfl
      | false => exact test_of (q := [.v 699038 (.int (r0 r)), .b 699047 false, .v 699057 (.int (r1 r)), .b 699066 true]) (fun E e => o E e _ q2) fun k => by kernel_rfl
theorem va_one {a : Int} (h : ∀ r ∈ W, r.tail ≠ []) (l : W.length ≤ 1000) : TurnsP (ev C tab 46) (List.range n) (vaC 3).sc.names (vaC 3).elt (vaC 3).tgt (vaC 3).ifs (W.map rowV) [(S "one", .int a)] s ((W.filter fun r => r0 r == a).map rowV) :=
  comp_filC (y := S "row") (vaC 3) rowV rowV (fun r => r0 r == a) (by kernel_rfl : (vaC 3).ifs = [(vaC 3).ifs.headD noE]) (by kernel_rfl) (by kernel_rfl) (by kernel_rfl) (le5 l) (fun _ _ _ => by kernel_rfl) fun r m => test_of (q := [.v 701092 (.int (r0 r))]) (fun _ e => ob (ix0 (t_ne (h r m)) s) e) fun k => by kernel_rfl
theorem va_two {a : Int} (h : ∀ r ∈ W, r.tail ≠ []) (l : W.length ≤ 1000) : TurnsP (ev C tab 45) (List.range n) (vaC 4).sc.names (vaC 4).elt (vaC 4).tgt (vaC 4).ifs (W.map rowV) [(S "one", .int a)] s ((W.filter fun r => r1 r == a).map rowV) :=
  comp_filC (y := S "row") (vaC 4) rowV rowV (fun r => r1 r == a) (by kernel_rfl : (vaC 4).ifs = [(vaC 4).ifs.headD noE]) (by kernel_rfl) (by kernel_rfl) (by kernel_rfl) (le5 l) (fun _ _ _ => by kernel_rfl) fun r m => test_of (q := [.v 703095 (.int (r1 r))]) (fun _ e => ob (ix1 (h r m) s) e) fun k => by kernel_rfl
theorem fil_le {t : List Int → Bool} (l : W.length ≤ 1000) : (W.filter t).length ≤ 1000 := Nat.le_trans (List.length_filter_le ..) l
theorem va_right (hm : ManyS p.right) (h : ∀ r ∈ W, r.tail ≠ []) (l : W.length ≤ 1000) (lb : bs.length ≤ 1000) : TurnsP (ev C tab 54) (List.range n) (vaB 3).sc.names (vaB 3).elt (vaB 3).tgt (vaB 3).ifs (bs.map .int) [(S "plan", planV p), (S "value", relV W)] s ((bs.filter fun o => !manyB p.right (W.filter fun r => r0 r == o).length).map .int) :=
  comp_filC (y := S "one") (vaB 3) V.int V.int (fun o => !manyB p.right (W.filter fun r => r0 r == o).length) (by kernel_rfl : (vaB 3).ifs = [(vaB 3).ifs.headD noE]) (by kernel_rfl) (by kernel_rfl) (by kernel_rfl) (le5 lb) (fun _ _ _ => by kernel_rfl) fun o _ =>
    test_of (q := [.l 701100 ((W.filter fun r => r0 r == o).map rowV), .w 701101 (.int (W.filter fun r => r0 r == o).length) s, .c 701102 12 (.bool (manyB p.right (W.filter fun r => r0 r == o).length))]) (fun _ e => ob (va_one (C := C) (n := n) (s := s) (a := o) h l) (ob (len_map (g := rowV) (le5 (fil_le (t := fun r => r0 r == o) l)) s) (ob (l_many (C := C) (σ := s) (c := (W.filter fun r => r0 r == o).length) hm) e))) fun k => by kernel_rfl
theorem va_left (hm : ManyS p.left) (h : ∀ r ∈ W, r.tail ≠ []) (l : W.length ≤ 1000) (la : as.length ≤ 1000) : TurnsP (ev C tab 53) (List.range n) (vaB 4).sc.names (vaB 4).elt (vaB 4).tgt (vaB 4).ifs (as.map .int) [(S "plan", planV p), (S "value", relV W)] s ((as.filter fun o => !manyB p.left (W.filter fun r => r1 r == o).length).map .int) :=
  comp_filC (y := S "one") (vaB 4) V.int V.int (fun o => !manyB p.left (W.filter fun r => r1 r == o).length) (by kernel_rfl : (vaB 4).ifs = [(vaB 4).ifs.headD noE]) (by kernel_rfl) (by kernel_rfl) (by kernel_rfl) (le5 la) (fun _ _ _ => by kernel_rfl) fun o _ =>
    test_of (q := [.l 703103 ((W.filter fun r => r1 r == o).map rowV), .w 703104 (.int (W.filter fun r => r1 r == o).length) s, .c 703105 12 (.bool (manyB p.left (W.filter fun r => r1 r == o).length))]) (fun _ e => ob (va_two (C := C) (n := n) (s := s) (a := o) h l) (ob (len_map (g := rowV) (le5 (fil_le (t := fun r => r1 r == o) l)) s) (ob (l_many (C := C) (σ := s) (c := (W.filter fun r => r1 r == o).length) hm) e))) fun k => by kernel_rfl
theorem mult1_S (h : ManyS p.mult) : ManyS (mult1 p) := by
  unfold mult1
  cases p.mult == "" with
  | true => exact .inr (.inr (.inr (.inr (.inl rfl))))
  | false => exact h
abbrev vaS (σ : List Cell) (α : String → List Int) : List Cell := σ ++ [.list [.lst ((α "B").map .int), .lst ((α "A").map .int), .lst ((α "A" ++ α "B").map .int)]]
theorem val_ok (I : InstOk p nm H α) (hA : "A" ∈ p.names) (hB : "B" ∈ p.names) (hm : ManyS p.mult) (hr : ManyS p.right) (hl : ManyS p.left) (l : W.length ≤ 1000) (h0 : ∀ r ∈ W, r ≠ []) (h1 : decide ((p.kind : Int) < 3) = false → ∀ r ∈ W, r.tail ≠ []) : Con C tab 60 f__law_value_holds [planV p, relV W, hereV H, .lst (strsV nm)] σ (.bool (valB p α W)) σ := by
  have cA := I.atoms (C := C) (σ := σ) hA
  have cB := I.atoms (C := C) (σ := σ) hB
  have lA := (I.at_ _ hA).2.2
  have lB := (I.at_ _ hB).2.2
  unfold valB
  cases h : decide ((p.kind : Int) < 3) with
  | true =>
    have o := fun E (e : E) b (hb : (W.all fun r => (wholeL α p.kind).contains (r0 r)) = b) => ob cA (ob cB (ob (congrArg some h) (ob (add_ints (s := σ) (Nat.le_trans (Nat.add_le_add lA lB) (by decide))) (ob (whole_at (σ := σ) (α := α) h) (ob (va_whole (C := C) (n := σ.length) (s := vaS σ α) (w := wholeL α p.kind) h0 l) (ob (ne_nil (σ := vaS σ α) (pls_fil _ fun r _ => pl_row r) ((fil_all (fun r => (wholeL α p.kind).contains (r0 r)) W rowV).trans hb)) e))))))
    cases hb : W.all fun r => (wholeL α p.kind).contains (r0 r) with
    | false => exact con_of (q := [.c 693040 20 (.lst ((α "A").map .int)), .c 693070 20 (.lst ((α "B").map .int)), .b 694023 true, .v 695028 (.lst ((α "A" ++ α "B").map .int)), .v 695043 (.lst ((wholeL α p.kind).map .int)), .l 696056 ((W.filter fun r => !(wholeL α p.kind).contains (r0 r)).map rowV), .b 696062 true]) (fun E e => o E e _ hb) (by kernel_rfl)
    | true =>
      have c := l_many (C := C) (σ := vaS σ α ++ [.list []]) (c := W.length) (mult1_S hm)
      have n := len_map (g := rowV) (le5 l) (vaS σ α ++ [.list []])
      unfold mult1 at c ⊢
      cases hq : p.mult == "" with
      | true =>
        rw [hq] at c
        exact con_of (q := [.c 693040 20 (.lst ((α "A").map .int)), .c 693070 20 (.lst ((α "B").map .int)), .b 694023 true, .v 695028 (.lst ((α "A" ++ α "B").map .int)), .v 695043 (.lst ((wholeL α p.kind).map .int)), .l 696056 ((W.filter fun r => !(wholeL α p.kind).contains (r0 r)).map rowV), .b 696062 false, .b 698052 true, .w 698082 (.int W.length) (vaS σ α ++ [.list []]), .c 698083 12 (.bool (manyB "one" W.length))]) (fun E e => o _ (ob (eq_strs (vaS σ α ++ [.list []]) hq) (ob n (ob c e))) _ hb) (by kernel_rfl)
      | false =>
        rw [hq] at c
        exact con_of (q := [.c 693040 20 (.lst ((α "A").map .int)), .c 693070 20 (.lst ((α "B").map .int)), .b 694023 true, .v 695028 (.lst ((α "A" ++ α "B").map .int)), .v 695043 (.lst ((wholeL α p.kind).map .int)), .l 696056 ((W.filter fun r => !(wholeL α p.kind).contains (r0 r)).map rowV), .b 696062 false, .b 698052 false, .w 698082 (.int W.length) (vaS σ α ++ [.list []]), .c 698083 12 (.bool (manyB p.mult W.length))]) (fun E e => o _ (ob (eq_strs (vaS σ α ++ [.list []]) hq) (ob n (ob c e))) _ hb) (by kernel_rfl)
  | false =>
    have h1 := h1 h
    have o := fun E (e : E) b (hb : (W.all fun r => (α "B").contains (r0 r) && (α "A").contains (r1 r)) = b) => ob cA (ob cB (ob (congrArg some h) (ob (va_pair (C := C) (n := σ.length) (s := σ) (as := α "A") (bs := α "B") h1 l) (ob (ne_nil (σ := σ) (pls_fil _ fun r _ => pl_row r) ((fil_all (fun r => (α "B").contains (r0 r) && (α "A").contains (r1 r)) W rowV).trans hb)) e))))
    cases hb : W.all fun r => (α "B").contains (r0 r) && (α "A").contains (r1 r) with
    | false => exact con_of (q := [.c 693040 20 (.lst ((α "A").map .int)), .c 693070 20 (.lst ((α "B").map .int)), .b 694023 false, .l 699067 ((W.filter fun r => !((α "B").contains (r0 r) && (α "A").contains (r1 r))).map rowV), .b 699073 true]) (fun E e => o E e _ hb) (by kernel_rfl)
    | true =>
      have o := fun E (e : E) b (hc : ((α "B").all fun o => manyB p.right (W.filter fun r => r0 r == o).length) = b) => o _ (ob (va_right (C := C) (p := p) (n := σ.length) (s := σ ++ [.list []]) (bs := α "B") hr h1 l (Nat.le_trans lB (by decide))) (ob (ne_nil (σ := σ ++ [.list []]) (pls_fil _ fun _ _ => pl_int) ((fil_all (fun o => manyB p.right (W.filter fun r => r0 r == o).length) (α "B") V.int).trans hc)) e)) _ hb
      cases hc : (α "B").all fun o => manyB p.right (W.filter fun r => r0 r == o).length with
      | false => exact con_of (q := [.c 693040 20 (.lst ((α "A").map .int)), .c 693070 20 (.lst ((α "B").map .int)), .b 694023 false, .l 699067 ((W.filter fun r => !((α "B").contains (r0 r) && (α "A").contains (r1 r))).map rowV), .b 699073 false, .l 701103 (((α "B").filter fun o => !manyB p.right (W.filter fun r => r0 r == o).length).map .int), .b 701109 true]) (fun E e => o E e _ hc) (by kernel_rfl)
      | true =>
        exact con_of (q := [.c 693040 20 (.lst ((α "A").map .int)), .c 693070 20 (.lst ((α "B").map .int)), .b 694023 false, .l 699067 ((W.filter fun r => !((α "B").contains (r0 r) && (α "A").contains (r1 r))).map rowV), .b 699073 false, .l 701103 (((α "B").filter fun o => !manyB p.right (W.filter fun r => r0 r == o).length).map .int), .b 701109 false, .l 703106 (((α "A").filter fun o => !manyB p.left (W.filter fun r => r1 r == o).length).map .int), .b 703112 ((α "A").all fun o => manyB p.left (W.filter fun r => r1 r == o).length)]) (fun E e => o _ (ob (va_left (C := C) (p := p) (n := σ.length) (s := σ ++ [.list []] ++ [.list []]) (as := α "A") hl h1 l (Nat.le_trans lA (by decide))) (ob (eq_nil (σ := σ ++ [.list []] ++ [.list []]) (pls_fil _ fun _ _ => pl_int) (fil_all (fun o => manyB p.left (W.filter fun r => r1 r == o).length) (α "A") V.int)) e)) _ hc) (by kernel_rfl)
end
section
variable {r : Ev} {lk : List Nat} {nk : Nk} {σ : List Cell}
theorem for_srch {α : Type} {body : List Stmt} {y : Str} {p : Pos} {m0 : M} {xs : List α} (g : α → V) (b : α → Bool) (hs : stoOk nk y = true) (e : rm y m0 = m0) (h : ∀ x ∈ xs, To2 (fun q => r.x lk nk body q ((y, g x) :: m0) σ) (cond (b x) .next (.ret (.bool false))) ((y, g x) :: m0) σ) :
    ∃ m', (m' = m0 ∨ ∃ v, m' = (y, v) :: m0) ∧ ForP r lk nk (.Name y p) body (xs.map g) m0 σ (cond (xs.all b) .next (.ret (.bool false))) m' σ := by
  have go : ∀ xs : List α, (∀ x ∈ xs, To2 (fun q => r.x lk nk body q ((y, g x) :: m0) σ) (cond (b x) .next (.ret (.bool false))) ((y, g x) :: m0) σ) → ∀ m q, (m = m0 ∨ ∃ v, m = (y, v) :: m0) → ∃ m', (m' = m0 ∨ ∃ v, m' = (y, v) :: m0) ∧ evFor r lk nk true (.Name y p) body (xs.map g) q m σ (FlIs (cond (xs.all b) .next (.ret (.bool false))) m' σ) := by
    intro xs
    induction xs with
    | nil => exact fun _ m q hm => ⟨m, hm, rfl, rfl, rfl⟩
    | cons x xs ih =>
      intro h m q hm
      have e2 : rm y m = m0 := by
        rcases hm with rfl | ⟨v, rfl⟩
        · exact e
        · exact (rm_put ..).trans e
      have t := h x (.head _)
      obtain ⟨m', h1, h2⟩ := ih (fun z hz => h z (.tail _ hz)) ((y, g x) :: m0) [] (.inr ⟨_, rfl⟩)
      cases q1 : b x with
      | true =>
        rw [q1] at t
        refine ⟨m', h1, ?_⟩
        show opt (tgtN nk (.Name y p) (g x) m) _
        rw [tgt_name hs, e2, List.all_cons, q1]
        exact t _ h2
      | false =>
        rw [q1] at t
        refine ⟨(y, g x) :: m0, .inr ⟨_, rfl⟩, ?_⟩
        show opt (tgtN nk (.Name y p) (g x) m) _
        rw [tgt_name hs, e2, List.all_cons, q1]
        exact t _ ⟨rfl, rfl, rfl⟩
  exact go xs h m0 [] (.inl rfl)
end
def fieldB (p : Plan) (α : String → List Int) (rows : Rel) (field : String) (rowsF : Rel) : Bool :=
  (rows.all fun r => (α p.owner).contains (r0 r)) && (((α p.owner).all fun a => valB p α ((rows.filter fun r => r0 r == a).map List.tail)) && (field == "f" || rows.all fun r => !rowsF.contains r))
section
variable {C : Cx} {σ s : List Cell} {p : Plan} {nm : List String} {H : List Rel} {α : String → List Int} {x y : String} {rows rowsF : Rel} {as : List Int} {n : Nat}
abbrev fiN : Nk := f__law_field_holds.sc.names
abbrev fiA : Cmp := cmA (argA 0 (valA (stA f__law_field_holds.body 2)))
abbrev fiO : Stmt := stA f__law_field_holds.body 3
abbrev fiB : Cmp := cmA (argA 1 (argA 0 (valA (stA (thenA fiO) 0))))
abbrev fiC : Cmp := cmA (argA 0 (argA 1 (valA (stA f__law_field_holds.body 4))))
theorem fi_in (h : ∀ r ∈ rows, r ≠ []) (l : rows.length ≤ 1000) : TurnsP (ev C tab 85) (List.range n) fiA.sc.names fiA.elt fiA.tgt fiA.ifs (rows.map rowV) [(S "atoms", .lst (as.map .int))] s ((rows.filter fun r => !as.contains (r0 r)).map rowV) :=
  comp_filC (y := S "row") fiA rowV rowV (fun r => !as.contains (r0 r)) (by kernel_rfl : fiA.ifs = [fiA.ifs.headD noE]) (by kernel_rfl) (by kernel_rfl) (by kernel_rfl) (le5 l) (fun _ _ _ => by kernel_rfl) fun r m => test_of (q := [.v 707037 (.int (r0 r)), .b 707050 (!as.contains (r0 r))]) (fun _ e => ob (ix0 (h r m) s) (ob (in_ints (a := r0 r) (s := s) as rfl) e)) fun k => by kernel_rfl
theorem fi_at {a : Int} (h : ∀ r ∈ rows, r ≠ []) (hl : ∀ r ∈ rows, r.length ≤ 100) (l : rows.length ≤ 1000) : TurnsP (ev C tab 79) (List.range n) fiB.sc.names fiB.elt fiB.tgt fiB.ifs (rows.map rowV) [(S "a", .int a)] s ((rows.filter fun r => r0 r == a).map fun r => rowV r.tail) :=
  comp_fil (y := S "row") fiB rowV (fun r => rowV r.tail) (fun r => r0 r == a) (by kernel_rfl) (by kernel_rfl) (by kernel_rfl) (le5 l) fun r m => by
    cases q : r0 r == a with
    | true => exact turn_of (q := [.v 710072 (.int (r0 r)), .b 710077 true, .v 710046 (rowV r.tail)]) (fun _ e => ob (ix0 (h r m) s) (ob (congrArg some q) (ob (slc_rowT (σ := s) (hl r m)) e))) fun k => by kernel_rfl
    | false => exact turn_of (q := [.v 710072 (.int (r0 r)), .b 710077 false]) (fun _ e => ob (ix0 (h r m) s) (ob (congrArg some q) e)) fun k => by kernel_rfl
theorem fi_dis {w : String} (i1 : evBop .Add (sv w) (sv ".f") s = some (sv (w ++ ".f"))) (h1 : nm.contains (w ++ ".f") = true) (h2 : H[nm.findIdx (· == w ++ ".f")]? = some rowsF) (ln : nm.length ≤ 1000) (l : rows.length ≤ 1000) : TurnsP (ev C tab 82) (List.range n) fiC.sc.names fiC.elt fiC.tgt fiC.ifs (rows.map rowV) [(S "owner", sv w), (S "here", hereV H), (S "names", .lst (strsV nm))] s ((rows.filter fun r => rowsF.contains r).map rowV) :=
  comp_filC (y := S "row") fiC rowV rowV (fun r => rowsF.contains r) (by kernel_rfl : fiC.ifs = [fiC.ifs.headD noE]) (by kernel_rfl) (by kernel_rfl) (by kernel_rfl) (le5 l) (fun _ _ _ => by kernel_rfl) fun r m => test_of (q := [.v 712087 (sv (w ++ ".f")), .w 712088 (.int (nm.findIdx (· == w ++ ".f") : Nat)) s, .v 712089 (relV rowsF), .b 712089 (rowsF.contains r)]) (fun _ e => ob i1 (ob (idx_of (σ := s) (lk := List.range n) h1 (Nat.le_trans ln (by decide))) (ob (at_of (σ := s) (xs := H.map relV) ((List.getElem?_map ..).trans (congrArg (·.map relV) h2)) (Nat.lt_of_le_of_lt (Nat.le_trans List.findIdx_le_length ln) (by decide))) (ob (in_rows (a := r) (σ := s) rowsF rfl) e)))) fun k => by kernel_rfl
theorem fil_none {α : Type} (t : α → Bool) (xs : List α) (f : α → V) : ((xs.filter t).map f).isEmpty = xs.all fun x => !t x := by
  induction xs with
  | nil => rfl
  | cons x xs ih =>
    rw [List.filter_cons, List.all_cons]
    cases t x with
    | true => rfl
    | false => exact ih
abbrev fiM (p : Plan) (nm : List String) (H : List Rel) (x : String) (as : List Int) (rows : Rel) : M := [(S "atoms", .lst (as.map .int)), (S "rows", relV rows), (S "owner", sv p.owner), (S "plan", planV p), (S "field", sv x), (S "here", hereV H), (S "names", .lst (strsV nm))]
theorem tail_map : V.lst ((rows.filter fun r => r0 r == a).map fun r => rowV r.tail) = relV ((rows.filter fun r => r0 r == a).map List.tail) := congrArg V.lst (List.map_map (g := rowV) (f := List.tail) (l := rows.filter fun r => r0 r == a)).symm
theorem fi_for (hv : ∀ a, Con C tab 60 f__law_value_holds [planV p, relV ((rows.filter fun r => r0 r == a).map List.tail), hereV H, .lst (strsV nm)] s (.bool (valB p α ((rows.filter fun r => r0 r == a).map List.tail))) s) (h : ∀ r ∈ rows, r ≠ []) (hl : ∀ r ∈ rows, r.length ≤ 100) (l : rows.length ≤ 1000) :
    ∃ m', (m' = fiM p nm H x as rows ∨ ∃ v, m' = (S "a", v) :: fiM p nm H x as rows) ∧ ForP (ev C tab 86) (List.range n) fiN (tgA fiO) (thenA fiO) (as.map .int) (fiM p nm H x as rows) s (cond (as.all fun a => valB p α ((rows.filter fun r => r0 r == a).map List.tail)) .next (.ret (.bool false))) m' s :=
  for_srch (r := ev C tab 86) (lk := List.range n) (nk := fiN) (body := thenA fiO) (y := S "a") (p := (tgA fiO).pos) V.int (fun a => valB p α ((rows.filter fun r => r0 r == a).map List.tail)) (by kernel_rfl) (by kernel_rfl) fun a _ => by
    have c := hv a
    have t := fi_at (C := C) (n := n) (s := s) (a := a) h hl l
    have o := fun E (e : E) b (q : valB p α ((rows.filter fun r => r0 r == a).map List.tail) = b) => ob t (ob (q ▸ tail_map ▸ c : Con C tab 60 f__law_value_holds [planV p, .lst ((rows.filter fun r => r0 r == a).map fun r => rowV r.tail), hereV H, .lst (strsV nm)] s (.bool b) s) e)
    cases q : valB p α ((rows.filter fun r => r0 r == a).map List.tail) with
    | true => exact body_of (q := [.l 710078 ((rows.filter fun r => r0 r == a).map fun r => rowV r.tail), .c 710092 60 (.bool true)]) (fun E e => o E e _ q) fun k => by kernel_rfl
    | false => exact body_of (q := [.l 710078 ((rows.filter fun r => r0 r == a).map fun r => rowV r.tail), .c 710092 60 (.bool false)]) (fun E e => o E e _ q) fun k => by kernel_rfl
theorem fi_end {m' : M} (hm : m' = fiM p nm H x as rows ∨ ∃ v, m' = (S "a", v) :: fiM p nm H x as rows) (lw : (S p.owner).length + (S ".f").length ≤ 1000) (h1 : nm.contains (p.owner ++ ".f") = true) (h2 : H[nm.findIdx (· == p.owner ++ ".f")]? = some rowsF) (ln : nm.length ≤ 1000) (l : rows.length ≤ 1000) :
    ∃ s', To2 (Seg (ev C tab 86) (List.range n) fiN 712096 (f__law_field_holds.body.drop 4) m' s) (.ret (.bool (x == "f" || rows.all fun r => !rowsF.contains r))) m' s' := by
  have t := fi_dis (C := C) (n := n) (s := s) (add_strs (s := s) lw) h1 h2 ln l
  have z := eq_nil (σ := s) (pls_fil _ fun r _ => pl_row r) (fil_none (fun r => rowsF.contains r) rows rowV)
  cases q : x == "f" with
  | true =>
    have o := fun E (e : E) => ob (eq_strs s q) e
    rcases hm with rfl | ⟨v, rfl⟩
    · exact ⟨s, seg_of (q := [.b 712023 true]) o fun k => by kernel_rfl⟩
    · exact ⟨s, seg_of (q := [.b 712023 true]) o fun k => by kernel_rfl⟩
  | false =>
    have o := fun E (e : E) => ob (eq_strs s q) (ob t (ob z e))
    rcases hm with rfl | ⟨v, rfl⟩
    · exact ⟨s ++ [.list []], seg_of (q := [.b 712023 false, .l 712090 ((rows.filter fun r => rowsF.contains r).map rowV), .b 712096 (rows.all fun r => !rowsF.contains r)]) o fun k => by kernel_rfl⟩
    · exact ⟨s ++ [.list []], seg_of (q := [.b 712023 false, .l 712090 ((rows.filter fun r => rowsF.contains r).map rowV), .b 712096 (rows.all fun r => !rowsF.contains r)]) o fun k => by kernel_rfl⟩
theorem field_ok (I : InstOk p nm H α) (ho : p.owner ∈ p.names) (hv : ∀ s a, Con C tab 60 f__law_value_holds [planV p, relV ((rows.filter fun r => r0 r == a).map List.tail), hereV H, .lst (strsV nm)] s (.bool (valB p α ((rows.filter fun r => r0 r == a).map List.tail))) s) (h : ∀ r ∈ rows, r ≠ []) (hl : ∀ r ∈ rows, r.length ≤ 100) (l : rows.length ≤ 1000)
    (lw : (S p.owner).length + (S ".f").length ≤ 1000) (l1 : (S p.owner).length + (S ".").length ≤ 1000) (l2 : (S (p.owner ++ ".")).length + (S x).length ≤ 1000) (h1 : nm.contains (p.owner ++ ".f") = true) (h2 : H[nm.findIdx (· == p.owner ++ ".f")]? = some rowsF) (h3 : nm.contains (p.owner ++ "." ++ x) = true) (h4 : H[nm.findIdx (· == p.owner ++ "." ++ x)]? = some rows) :
    Con C tab 90 f__law_field_holds [planV p, sv x, hereV H, .lst (strsV nm)] σ (.bool (fieldB p α rows x rowsF)) σ := by
  have cA := I.atoms (C := C) (σ := σ) ho
  have o := fun E (e : E) b (q : (rows.all fun r => (α p.owner).contains (r0 r)) = b) => ob (add_strs (s := σ) l1) (ob (add_strs (s := σ) l2) (ob (idx_of (σ := σ) (lk := List.range σ.length) h3 (Nat.le_trans I.len (by decide))) (ob (at_of (σ := σ) (xs := H.map relV) ((List.getElem?_map ..).trans (congrArg (·.map relV) h4)) (Nat.lt_of_le_of_lt (Nat.le_trans List.findIdx_le_length I.len) (by decide))) (ob cA (ob (fi_in (C := C) (n := σ.length) (s := σ) (as := α p.owner) h l) (ob (ne_nil (σ := σ) (pls_fil _ fun r _ => pl_row r) ((fil_all (fun r => (α p.owner).contains (r0 r)) rows rowV).trans q)) e))))))
  unfold fieldB
  cases q1 : rows.all fun r => (α p.owner).contains (r0 r) with
  | false => exact con_of (q := [.v 706047 (sv (p.owner ++ ".")), .v 706055 (sv (p.owner ++ "." ++ x)), .w 706056 (.int (nm.findIdx (· == p.owner ++ "." ++ x) : Nat)) σ, .v 706057 (relV rows), .c 706089 20 (.lst ((α p.owner).map .int)), .l 707051 ((rows.filter fun r => !(α p.owner).contains (r0 r)).map rowV), .b 707057 true]) (fun E e => o E e _ q1) (by kernel_rfl)
  | true =>
    obtain ⟨m', hm, f⟩ := fi_for (C := C) (n := σ.length) (x := x) (as := α p.owner) (hv (σ ++ [.list []])) h hl l
    obtain ⟨s', t⟩ := fi_end (C := C) (n := σ.length) (s := σ ++ [.list []]) hm lw h1 h2 I.len l
    cases q2 : (α p.owner).all fun a => valB p α ((rows.filter fun r => r0 r == a).map List.tail) with
    | false =>
      rw [q2] at f
      exact con_of (q := [.v 706047 (sv (p.owner ++ ".")), .v 706055 (sv (p.owner ++ "." ++ x)), .w 706056 (.int (nm.findIdx (· == p.owner ++ "." ++ x) : Nat)) σ, .v 706057 (relV rows), .c 706089 20 (.lst ((α p.owner).map .int)), .l 707051 ((rows.filter fun r => !(α p.owner).contains (r0 r)).map rowV), .b 707057 false, .f 709024 (.ret (.bool false)) m' (σ ++ [.list []])]) (fun E e => o _ (ob f e) _ q1) (by kernel_rfl)
    | true =>
      rw [q2] at f
      exact con_seq t ⟨rfl, rfl⟩ (q1 := fun q => .v 706047 (sv (p.owner ++ ".")) :: .v 706055 (sv (p.owner ++ "." ++ x)) :: .w 706056 (.int (nm.findIdx (· == p.owner ++ "." ++ x) : Nat)) σ :: .v 706057 (relV rows) :: .c 706089 20 (.lst ((α p.owner).map .int)) :: .l 707051 ((rows.filter fun r => !(α p.owner).contains (r0 r)).map rowV) :: .b 707057 false :: .f 709024 .next m' (σ ++ [.list []]) :: .m 712096 :: q) (fun E e => o _ (ob f e) _ q1) fun q => by kernel_rfl
end
theorem nc_iff {α : Type} [BEq α] [LawfulBEq α] {a : α} {l : List α} : l.contains a = false ↔ ¬ a ∈ l := Bool.eq_false_iff.trans (not_congr List.contains_iff_mem)
theorem step_in {x : Int} {acc : List Int} (h : x ∈ acc) : step_dedup acc x = acc := if_pos (c := acc.any (· == x) = true) (List.any_eq_true.mpr ⟨x, h, beq_self_eq_true x⟩)
theorem step_out {x : Int} {acc : List Int} (h : ¬ x ∈ acc) : step_dedup acc x = acc ++ [x] := if_neg (c := acc.any (· == x) = true) fun q => (List.any_eq_true.mp q).elim fun y hy => h ((eq_of_beq hy.2 : y = x) ▸ hy.1)
theorem dedup_le (l : List Int) : ∀ acc : List Int, (l.foldl step_dedup acc).length ≤ acc.length + l.length := by
  induction l with
  | nil => exact fun acc => Nat.le_refl _
  | cons x l ih =>
    intro acc
    refine Nat.le_trans (ih _) (Nat.le_trans (Nat.add_le_add_right ?_ _) (Nat.le_of_eq (Nat.add_right_comm acc.length 1 l.length)))
    by_cases h : x ∈ acc
    · rw [step_in h]; exact Nat.le_succ _
    · rw [step_out h, List.length_append]; exact Nat.le_refl _
theorem dedup_eq (l : List Int) : ∀ acc : List Int, (acc ++ l).Nodup → l.foldl step_dedup acc = acc ++ l := by
  induction l with
  | nil => exact fun acc _ => (List.append_nil acc).symm
  | cons x l ih =>
    intro acc h
    have e : acc ++ x :: l = (acc ++ [x]) ++ l := (List.append_assoc acc [x] l).symm
    rw [List.foldl_cons, step_out fun m => (List.nodup_append.mp h).2.2 x m x (.head _) rfl, e, ih _ (e ▸ h)]
theorem dedup_lt (l : List Int) {x : Int} : ∀ acc : List Int, x ∈ l → x ∈ acc → (l.foldl step_dedup acc).length < acc.length + l.length := by
  induction l with
  | nil => exact fun _ h => absurd h List.not_mem_nil
  | cons y l ih =>
    intro acc h m
    by_cases q : y ∈ acc
    · rw [List.foldl_cons, step_in q]; exact Nat.lt_succ_of_le (dedup_le l acc)
    · rw [List.foldl_cons, step_out q]
      have := ih (acc ++ [y]) (((List.mem_cons.mp h).resolve_left fun e => q (e ▸ m))) (List.mem_append_left _ m)
      rw [List.length_append, Nat.add_assoc, Nat.add_comm [y].length] at this
      exact this
theorem nDiff_eq (l : List Int) : nDiff l = (l.foldl step_dedup []).length := by
  unfold nDiff PyProof.Rows.firstMet
  rw [show (List.range l.length).map (fun i => l.getD i 0) = l from List.ext_getElem ((List.length_map ..).trans List.length_range) fun i h1 h2 => by
    rw [List.getElem_map, List.getElem_range, List.getD_eq_getElem?_getD, List.getElem?_eq_getElem h2]; rfl]
theorem ib_eq {a b : Nat} (h : a = b) : ((a : Int) == (b : Int)) = true := beq_iff_eq.mpr (congrArg _ h)
theorem diff_nd {l : List Int} (h : l.Nodup) : ((l.length : Int) == (nDiff l : Int)) = true := ib_eq ((nDiff_eq l).trans (congrArg _ (dedup_eq l [] h))).symm
theorem diff_two {a b : List Int} (ha : a.Nodup) (hb : b.Nodup) : (((a ++ b).length : Int) == (nDiff (a ++ b) : Int)) = b.all fun x => !a.contains x := by
  cases q : b.all fun x => !a.contains x with
  | true => exact diff_nd (List.nodup_append.mpr ⟨ha, hb, fun x hx y hy e => absurd (List.all_eq_true.mp q y hy) (by rw [List.contains_iff_mem.mpr (e ▸ hx)]; exact Bool.false_ne_true)⟩)
  | false =>
    obtain ⟨x, hx, h⟩ := List.all_eq_false.mp q
    have hx2 : x ∈ a := List.contains_iff_mem.mp (by cases c : a.contains x with
      | true => rfl
      | false => exact absurd (congrArg not c) h)
    refine beq_eq_false_iff_ne.mpr fun e => Nat.ne_of_lt (dedup_lt b a hx hx2) ?_
    rw [← List.length_append, Int.ofNat.inj e, nDiff_eq, List.foldl_append, dedup_eq a [] ha]
    rfl
theorem idx_map {γ : String → Rel} {x : String} {l : List String} : x ∈ l → l.contains x = true ∧ (l.map γ)[l.findIdx (· == x)]? = some (γ x) := by
  induction l with
  | nil => exact fun h => absurd h List.not_mem_nil
  | cons y l ih =>
    intro h
    refine ⟨List.contains_iff_mem.mpr h, ?_⟩
    rw [List.findIdx_cons]
    cases e : y == x with
    | true => exact congrArg (fun z => some (γ z)) (eq_of_beq e)
    | false => exact (ih ((List.mem_cons.mp h).resolve_left fun q => absurd e (by rw [q, beq_self_eq_true]; exact fun h => nomatch h))).2
theorem nd_map {α β : Type} {t : α → Bool} {f : α → β} {xs : List α} (nd : xs.Nodup) (inj : ∀ r ∈ xs, ∀ s ∈ xs, t r = true → t s = true → f r = f s → r = s) : ((xs.filter t).map f).Nodup :=
  List.pairwise_map.mpr ((List.Pairwise.filter t nd).imp_of_mem fun {r s} hr hs q e => q (inj r (List.mem_filter.mp hr).1 s (List.mem_filter.mp hs).1 (List.mem_filter.mp hr).2 (List.mem_filter.mp hs).2 e))
theorem fold_fil {t : List Int → Bool} {f : List Int → List Int} {step : Rel → List Int → Rel} {xs : Rel} : ∀ acc : Rel, (∀ r ∈ xs, ∀ acc, step acc r = cond (t r && !acc.contains (f r)) (acc ++ [f r]) acc) → (acc ++ (xs.filter t).map f).Nodup → xs.foldl step acc = acc ++ (xs.filter t).map f := by
  induction xs with
  | nil => exact fun acc _ _ => (List.append_nil acc).symm
  | cons r xs ih =>
    intro acc hs nd
    rw [List.foldl_cons, hs r (.head _), List.filter_cons]
    rw [List.filter_cons] at nd
    cases q : t r with
    | false => rw [q] at nd; exact ih acc (fun s m => hs s (.tail _ m)) nd
    | true =>
      rw [q] at nd
      have e : acc ++ f r :: (xs.filter t).map f = (acc ++ [f r]) ++ (xs.filter t).map f := (List.append_assoc acc [f r] _).symm
      rw [nc_iff.mpr fun m => (List.nodup_append.mp nd).2.2 _ m _ (.head _) rfl]
      exact (ih (acc ++ [f r]) (fun s m => hs s (.tail _ m)) (e ▸ nd)).trans e.symm
theorem r0_tail {r : List Int} (h : r ≠ []) : r = r0 r :: r.tail := by
  cases r with
  | nil => exact absurd rfl h
  | cons a r => rfl
theorem r01 {r : List Int} (h : r.length = 2) : r = [r0 r, r1 r] := by
  match r, h with
  | [a, b], _ => rfl
theorem left_nd {a : Int} {rows : Rel} (nd : rows.Nodup) (ne : ∀ r ∈ rows, r ≠ []) : ((rows.filter fun r => r0 r == a).map List.tail).Nodup :=
  nd_map nd fun r hr s hs h1 h2 e => by rw [r0_tail (ne r hr), r0_tail (ne s hs), eq_of_beq h1, eq_of_beq h2, e]
theorem jo_left {a : Int} {rows : Rel} (nd : rows.Nodup) (ne : ∀ r ∈ rows, r ≠ []) : sJo [[a]] rows = (rows.filter fun r => r0 r == a).map List.tail :=
  fold_fil (step := jStep [a]) [] (fun r hr acc => by
    rw [r0_tail (ne r hr)]
    show cond ((a == r0 r) && !acc.contains r.tail) (acc ++ [r.tail]) acc = cond ((r0 r == a) && !acc.contains r.tail) (acc ++ [r.tail]) acc
    rw [Bool.beq_comm]) (left_nd nd ne)
theorem jo_right {b : Int} {W : Rel} (nd : W.Nodup) (ne : ∀ r ∈ W, r.length = 2) : sJo W [[b]] = (W.filter fun r => r1 r == b).map fun r => [r0 r] :=
  fold_fil (step := fun acc row => [[b]].foldl (jStep row) acc) [] (fun r hr acc => by rw [r01 (ne r hr)]; rfl) (nd_map nd fun r hr s hs h1 h2 e => by rw [r01 (ne r hr), r01 (ne s hs), eq_of_beq h1, eq_of_beq h2, (List.cons.inj e).1])
abbrev at1 (as : List Int) : Rel := as.map fun a => [a]
theorem at1_in {a : Int} {as : List Int} : (at1 as).contains [a] = as.contains a := by
  rw [List.contains_map]
  induction as with
  | nil => rfl
  | cons b as ih =>
    rw [List.any_cons, ih, List.contains_cons]
    exact congrArg (· || as.contains a) (Bool.and_true _)
theorem un_in {A B : Rel} {r : List Int} : (sUn A B).contains r = (A.contains r || B.contains r) := by
  unfold sUn
  rw [List.contains_append]
  cases q : A.contains r with
  | true => rfl
  | false =>
    refine Bool.eq_iff_iff.mpr ((List.contains_iff_mem.trans List.mem_filter).trans (Iff.trans ⟨fun h => h.1, fun h => ⟨h, ?_⟩⟩ List.contains_iff_mem.symm))
    rw [q]; rfl
theorem ah_in {A B : Rel} {r : List Int} (h : r ∈ B) : (sAh A B).contains r = A.contains (r.take 1) :=
  Bool.eq_iff_iff.mpr ((List.contains_iff_mem.trans List.mem_filter).trans ⟨fun q => q.2, fun q => ⟨h, q⟩⟩)
theorem pr_in {A B : List Int} {x y : Int} : (sPr (at1 A) (at1 B)).contains [x, y] = (A.contains x && B.contains y) := by
  refine Bool.eq_iff_iff.mpr (List.contains_iff_mem.trans (Iff.trans (List.mem_flatMap.trans ⟨?_, ?_⟩) (Bool.and_eq_true_iff.trans (and_congr List.contains_iff_mem List.contains_iff_mem)).symm))
  · rintro ⟨r, hr, h⟩
    obtain ⟨a, ha, rfl⟩ := List.mem_map.mp hr
    obtain ⟨s, hs, e⟩ := List.mem_map.mp h
    obtain ⟨b, hb, rfl⟩ := List.mem_map.mp hs
    obtain ⟨e1, e2⟩ := List.cons.inj e
    exact ⟨e1 ▸ ha, (List.cons.inj e2).1 ▸ hb⟩
  · exact fun h => ⟨[x], List.mem_map_of_mem h.1, List.mem_map.mpr ⟨[y], List.mem_map_of_mem h.2, rfl⟩⟩
theorem no_len {α : Type} (l : List α) : manyB "no" (l.length : Int) = l.isEmpty := by
  cases l with
  | nil => rfl
  | cons a l => rfl
theorem me_no {A B : Rel} : manyB "no" (sMe A B).length = B.all fun r => !A.contains r := by
  rw [no_len]
  refine Bool.eq_iff_iff.mpr ((List.isEmpty_iff.trans List.filter_eq_nil_iff).trans (Iff.trans ⟨fun h r hr => ?_, fun h r hr q => ?_⟩ List.all_eq_true.symm))
  · exact (Bool.not_eq_true' _).mpr (nc_iff.mpr fun m => h r m (List.contains_iff_mem.mpr hr))
  · exact nc_iff.mp ((Bool.not_eq_true' _).mp (h r (List.contains_iff_mem.mp q))) hr
theorem Con.up {C : Cx} {T : Tab} {n n' : Nat} {F : FnT} {ds : List V} {σ σ' : List Cell} {v : V} (c : Con C T n F ds σ v σ') (l : n ≤ n') : Con C T n' F ds σ v σ' := fun a b => (c a b).up (Nat.succ_le_succ (Nat.mul_le_mul_left 2 l))
def joinF (fs : List V) : V := cond fs.tail.isEmpty (fs.headD .none) (andE fs)
def FTs (C : Cx) (K d : Nat) (h e : V) (σ : List Cell) (fs : List V) (b : Bool) : Prop := ∃ ps : List (V × Bool), ps.map (·.1) = fs ∧ ps.all (·.2) = b ∧ ∀ q ∈ ps, TrIs C K q.1 h e σ q.2 ∧ ∀ k, q.1.pl (k + d) = true
section
variable {C : Cx} {K d : Nat} {h e : V} {σ : List Cell} {fs gs : List V} {b c : Bool} {f : V}
theorem FTs.nil : FTs C K d h e σ [] true := ⟨[], rfl, rfl, fun _ m => absurd m List.not_mem_nil⟩
theorem FTs.one (t : TrIs C K f h e σ b) (hp : ∀ k, f.pl (k + d) = true) : FTs C K d h e σ [f] b := ⟨[(f, b)], rfl, Bool.and_true b, fun _ m => List.mem_singleton.mp m ▸ ⟨t, hp⟩⟩
theorem FTs.app (x : FTs C K d h e σ fs b) (y : FTs C K d h e σ gs c) : FTs C K d h e σ (fs ++ gs) (b && c) := by
  obtain ⟨ps, rfl, rfl, x⟩ := x
  obtain ⟨qs, rfl, rfl, y⟩ := y
  exact ⟨ps ++ qs, List.map_append, List.all_append, fun q m => (List.mem_append.mp m).elim (x q) (y q)⟩
theorem FTs.join (x : FTs C K d h e σ fs b) (ne : fs ≠ []) (l : fs.length ≤ 1000) (hd : d ≤ 39) : TrIs C (K + 20) (joinF fs) h e σ b ∧ ∀ k, (joinF fs).pl (k + d + 2) = true := by
  obtain ⟨ps, rfl, rfl, x⟩ := x
  cases ps with
  | nil => exact absurd rfl ne
  | cons q r =>
    obtain ⟨t, hp⟩ := x q (.head _)
    cases r with
    | nil =>
      have t := t.up (Nat.le_add_right K 20)
      rw [← Bool.and_true q.2] at t
      exact ⟨t, fun k => Nat.add_right_comm k 2 d ▸ hp (k + 2)⟩
    | cons r s =>
      rw [List.length_map] at l
      exact ⟨tr_and (fs := q :: r :: s) (fun q m => (x q m).1) l fun q m => (congrArg (fun n => q.1.pl n) (Nat.sub_add_cancel hd)).symm.trans ((x q m).2 (39 - d)), fun k => (Bool.and_true _).trans (List.all_eq_true.mpr fun d m => by
        obtain ⟨q, m2, rfl⟩ := List.mem_map.mp m
        exact (x q m2).2 k)⟩
end
structure Good (p : Plan) (γ : String → Rel) (α : String → List Int) (β : String → Rel) : Prop where
  own : p.owner ∈ p.names
  sig : ∀ x ∈ p.names, γ x = at1 (α x) ∧ (α x).length ≤ 4 ∧ (α x).Nodup
  fld : ∀ f ∈ p.fields, γ (p.owner ++ "." ++ f) = β f ∧ (β f).length ≤ 4 ∧ (β f).Nodup
  row : ∀ f ∈ p.fields, ∀ r ∈ β f, r.length = cond (decide ((p.kind : Int) < 3)) 2 3
section
variable {C : Cx} {p : Plan} {γ : String → Rel} {α : String → List Int} {β : String → Rel} {σ : List Cell} {e : V} {K : Nat} {x y : String} {f : V}
theorem nm_len (p : Plan) : p.nm.length ≤ 20 := by
  unfold Plan.nm Plan.names Plan.fields
  rw [List.length_append, List.length_append, List.length_append, List.length_map]
  have a : (if 0 < p.part then ["E"] else []).length ≤ 1 := by split <;> decide
  have b : (if p.two then ["f", "g"] else ["f"]).length ≤ 2 := by split <;> decide
  exact Nat.le_trans (Nat.add_le_add (Nat.add_le_add_left (Nat.add_le_add (kids_len _) a) _) b) (by decide)
theorem num_lt (p : Plan) (x : String) : p.num x < 1000 := Nat.lt_of_le_of_lt List.findIdx_le_length (Nat.lt_of_le_of_lt (nm_len p) (by decide))
abbrev hG (p : Plan) (γ : String → Rel) : V := hereV (p.nm.map γ)
theorem Good.sset (G : Good p γ α β) (hx : x ∈ p.names) : SetIs C 20 (relE (p.num x)) (hG p γ) e σ (at1 (α x)) := (G.sig x hx).1 ▸ set_rel (idx_map (names_nm hx)).2 (num_lt p x)
theorem Good.slen (G : Good p γ α β) (hx : x ∈ p.names) : (at1 (α x)).length ≤ 200 := Nat.le_trans (Nat.le_of_eq (List.length_map ..)) (Nat.le_trans (G.sig x hx).2.1 (by decide))
theorem fld_nm {f : String} (hf : f ∈ p.fields) : p.owner ++ "." ++ f ∈ p.nm := List.mem_append_right _ (List.mem_map_of_mem hf)
theorem Good.fset (G : Good p γ α β) {f : String} (hf : f ∈ p.fields) : SetIs C 20 (relE (p.num (p.owner ++ "." ++ f))) (hG p γ) e σ (β f) := (G.fld f hf).1 ▸ set_rel (idx_map (fld_nm hf)).2 (num_lt p _)
theorem Good.flen (G : Good p γ α β) {f : String} (hf : f ∈ p.fields) : (β f).length ≤ 200 := Nat.le_trans (G.fld f hf).2.1 (by decide)
theorem row_e {r : List Int} (h : r ≠ []) (l : r.length ≤ 100) : RowE r := ⟨l, r.head h, r.getLast h, List.getLast?_eq_some_getLast h, List.head?_eq_some_head h⟩
theorem len23 {r : List Int} {b : Bool} (h : r.length = cond b 2 3) : r ≠ [] ∧ r.tail ≠ [] ∧ r.length ≤ 100 := by
  have l : 2 ≤ r.length ∧ r.length ≤ 100 := by rw [h]; cases b <;> decide
  exact ⟨List.ne_nil_of_length_pos (Nat.lt_of_lt_of_le (by decide) l.1), List.ne_nil_of_length_pos (by rw [List.length_tail]; exact Nat.le_sub_of_add_le l.1), l.2⟩
theorem Good.inst (G : Good p γ α β) : InstOk p p.nm (p.nm.map γ) α :=
  ⟨fun y hy => have i := idx_map (γ := γ) (names_nm hy); ⟨i.1, i.2.trans (congrArg some (G.sig y hy).1), Nat.le_trans (G.sig y hy).2.1 (by decide)⟩, Nat.le_trans (nm_len p) (by decide)⟩
theorem names_A (p : Plan) : "A" ∈ p.names := .head _
theorem names_B (p : Plan) : "B" ∈ p.names := .tail _ (.head _)
theorem sup_names (hk : p.part ≤ 2) {x y : String} (h : y ∈ supL p x) : y ∈ p.names := by
  unfold supL supG at h
  have ab : ∀ {k}, y ∈ ["A", "B"].take k → y ∈ p.names := fun h => by
    rcases List.mem_cons.mp (List.mem_of_mem_take h) with rfl | h
    · exact names_A p
    · exact List.mem_singleton.mp h ▸ names_B p
  cases q : ["C", "D"].contains x with
  | true => rw [q] at h; exact ab (k := 1) h
  | false =>
    rw [q] at h
    replace h : y ∈ if x == "E" then ["A", "B"].take p.part else [] := h
    split at h
    · exact ab h
    · exact absurd h List.not_mem_nil
theorem in_ok (G : Good p γ α β) (hx : x ∈ p.names) {y : V} {B : Rel} {bs : List Int} (hs : SetIs C K y (hG p γ) e σ B) (k : 20 ≤ K) (hB : ∀ a, B.contains [a] = bs.contains a) : TrIs C (K + 20) (inE (relE (p.num x)) y) (hG p γ) e σ ((α x).all bs.contains) := by
  have := tr_in ((G.sset hx).up k) hs (G.slen hx)
  rw [List.all_map] at this
  exact (funext hB : ((fun r => B.contains r) ∘ fun a => [a]) = bs.contains) ▸ this
def uniE (p : Plan) (ys : List String) : V := cond ys.tail.isEmpty (relE (p.num (ys.headD ""))) (unE (relE (p.num (ys.headD ""))) (relE (p.num (ys.tail.headD ""))))
def inF (p : Plan) (x : String) (ys : List String) : List V := cond ys.isEmpty [] [inE (relE (p.num x)) (uniE p ys)]
theorem in_fts (G : Good p γ α β) (hx : x ∈ p.names) {ys : List String} (hy : ∀ y ∈ ys, y ∈ p.names) (l : ys.length ≤ 2) : FTs C 60 20 (hG p γ) e σ (inF p x ys) (supB (α x) (ys.flatMap α) ys) := by
  cases ys with
  | nil => exact .nil
  | cons y r => cases r with
    | nil => exact .one ((in_ok G hx (bs := [y].flatMap α) (G.sset (hy y (.head _))) (Nat.le_refl _) fun a => at1_in.trans (congrArg (fun l : List Int => l.contains a) (List.append_nil (α y)).symm)).up (by decide)) fun k => by kernel_rfl
    | cons z r => cases r with
      | cons w r => exact absurd (Nat.le_of_succ_le_succ (Nat.le_of_succ_le_succ l)) (Nat.not_succ_le_zero _)
      | nil => exact .one (in_ok G hx (bs := [y, z].flatMap α) (set_un (G.sset (hy y (.head _))) (G.sset (hy z (.tail _ (.head _)))) (G.slen (hy y (.head _))) (G.slen (hy z (.tail _ (.head _))))) (by decide) fun a => by
          rw [un_in, at1_in, at1_in, ← List.contains_append]
          exact congrArg (fun l : List Int => (α y ++ l).contains a) (List.append_nil (α z)).symm) fun k => by kernel_rfl
theorem all_ok (G : Good p γ α β) (hx : x ∈ p.names) {s : String} {env : Ent} {body : V} {b : Int → Bool} (he : getDc σ e = some (entV env)) (lE : env.length ≤ 100) (k : 20 ≤ K) (hn : ∀ a : Int, ((env ++ [(s, a)]).map (·.1)).Nodup) (H : ∀ a σ' e', getDc σ' e' = some (entV (env ++ [(s, a)])) → TrIs C K body (hG p γ) e' σ' (b a)) : TrIs C (K + 20) (allE s (relE (p.num x)) body) (hG p γ) e σ ((α x).all b) := by
  have := tr_all (b := b) (body := body) he ((G.sset (C := C) hx).up k) lE (fun r m => (List.mem_map.mp m).elim fun a h => ⟨a, h.2.symm⟩) hn fun r _ σ' e' h => H (r.headD 0) σ' e' h
  rw [List.all_map] at this
  exact this
end
abbrev Mu4 (s : String) : Prop := s = "" ∨ s = "one" ∨ s = "lone" ∨ s = "some"
theorem Mu4.m4 {s : String} (h : Mu4 s) (q : (s == "") = false) : Many4 s := h.elim (fun e => absurd (beq_iff_eq.mpr e) (by rw [q]; exact Bool.false_ne_true)) .inr
theorem Mu4.s {s : String} (h : Mu4 s) : ManyS s := h.elim (fun h => .inr (.inl h)) fun h => Many4.s (.inr h)
theorem many_nil (c : Int) : manyB "" c = true := rfl
section
variable {C : Cx} {p : Plan} {γ : String → Rel} {α : String → List Int} {β : String → Rel} {σ : List Cell} {h e : V} {K d : Nat} {x y : String} {f : V} {fs gs : List V} {b c : Bool}
theorem FTs.up {K' : Nat} (x : FTs C K d h e σ fs b) (l : K ≤ K') : FTs C K' d h e σ fs b := x.elim fun ps x => ⟨ps, x.1, x.2.1, fun q m => ⟨(x.2.2 q m).1.up l, (x.2.2 q m).2⟩⟩
theorem FTs.cond (t : Bool) (x : t = true → FTs C K d h e σ fs b) : FTs C K d h e σ (bif t then fs else []) (bif t then b else true) := by
  cases t with
  | true => exact x rfl
  | false => exact .nil
theorem FTs.to {b' : Bool} (x : FTs C K d h e σ fs b) (q : b = b') : FTs C K d h e σ fs b' := q ▸ x
def mulF (p : Plan) (x mu : String) : List V := cond (mu == "") [] [manyE mu (relE (p.num x))]
def disF (p : Plan) : List V := cond (kidsL p.kids).tail.isEmpty [] [manyE "no" (meE (relE (p.num "C")) (relE (p.num "D")))]
def chF (p : Plan) : List V := disF p ++ cond p.ab (inF p "A" (kidsL p.kids)) []
def facE (p : Plan) : V := allE "this" (relE (p.num p.owner)) (manyE p.fact (joE (varE "this") (relE (p.num (p.owner ++ "." ++ "f")))))
def facF (p : Plan) (x : String) : List V := cond (x == p.owner) (cond (p.fact == "") [] [facE p]) []
def sigF (p : Plan) (x mu : String) : List V := inF p x (supL p x) ++ (mulF p x mu ++ (cond (x == "A") (chF p) [] ++ facF p x))
theorem mul_fts (G : Good p γ α β) (hx : x ∈ p.names) {mu : String} (hm : Mu4 mu) : FTs C 60 20 (hG p γ) e σ (mulF p x mu) (manyB mu (α x).length) := by
  unfold mulF
  cases q : mu == "" with
  | true => rw [eq_of_beq q]; exact .nil
  | false => exact .one (((List.length_map (as := α x) fun a => [a]) ▸ tr_many (hm.m4 q) (G.sset hx) (G.slen hx) : TrIs C 40 _ _ e σ _).up (by decide)) fun k => by kernel_rfl
theorem dis_fts (G : Good p γ α β) : FTs C 60 20 (hG p γ) e σ (disF p) ((((kidsL p.kids).flatMap α).length : Int) == (nDiff ((kidsL p.kids).flatMap α) : Int)) := by
  have hk : ∀ y ∈ kidsL p.kids, y ∈ p.names := fun y => kids_names
  unfold disF
  generalize p.kids = k at hk
  match k, hk with
  | 0, _ => exact .nil
  | 1, hk => exact FTs.nil.to (diff_nd (l := ["C"].flatMap α) (by rw [show ["C"].flatMap α = α "C" from List.append_nil _]; exact (G.sig _ (hk "C" (.head _))).2.2)).symm
  | k + 2, hk =>
    have hC := hk "C" (.head _)
    have hD := hk "D" (.tail _ (.head _))
    refine FTs.to (.one (b := (α "D").all fun x => !(α "C").contains x) ?_ fun k => by kernel_rfl) ?_
    · have := tr_many (s := "no") (.inl rfl) (set_me (G.sset hC (C := C) (e := e) (σ := σ)) (G.sset hD) (G.slen hC)) (Nat.le_trans (List.length_filter_le ..) (G.slen hC))
      rw [me_no, List.all_map] at this
      exact (funext fun a => congrArg not at1_in : ((fun r => !(at1 (α "C")).contains r) ∘ fun a => [a]) = fun x => !(α "C").contains x) ▸ this
    · rw [show (kidsL (k + 2)).flatMap α = α "C" ++ α "D" from congrArg (α "C" ++ ·) (List.append_nil _)]
      exact (diff_two (G.sig _ hC).2.2 (G.sig _ hD).2.2).symm
theorem ch_fts (G : Good p γ α β) : FTs C 60 20 (hG p γ) e σ (chF p) (midB p (α "A") ((kidsL p.kids).flatMap α)) := by
  refine (FTs.app (dis_fts G) (FTs.cond p.ab fun _ => in_fts G (names_A p) (fun y => kids_names) (kids_len _))).to ?_
  unfold midB supB
  cases p.ab with
  | false => rfl
  | true => cases (kidsL p.kids).isEmpty with
    | true => rfl
    | false => exact congrArg (_ && ·) (Bool.not_not _).symm
theorem env_this {a : Int} {r : Ent} : lkp (entV (("this", a) :: r)) (S "this") = some (.int a) := by kernel_rfl
theorem val_set (G : Good p γ α β) {f : String} (hf : f ∈ p.fields) {env : List (Str × V)} {a : Int} (he : getDc σ e = some env) (hl : lkp env (S "this") = some (.int a)) : SetIs C 40 (joE (varE "this") (relE (p.num (p.owner ++ "." ++ f)))) (hG p γ) e σ (((β f).filter fun r => r0 r == a).map List.tail) := by
  have r := fun r m => len23 (G.row f hf r m)
  exact jo_left (G.fld f hf).2.2 (fun r' m => (r r' m).1) ▸ set_jo (set_var he hl) (G.fset hf) (by show 1 ≤ 200; decide) (G.flen hf) (fun r m => List.mem_singleton.mp m ▸ row_e (fun h => nomatch h) (by show 1 ≤ 100; decide)) fun r' m => row_e (r r' m).1 (r r' m).2.2
theorem val_len (G : Good p γ α β) {f : String} (hf : f ∈ p.fields) {a : Int} : (((β f).filter fun r => r0 r == a).map List.tail).length ≤ 200 := Nat.le_trans (Nat.le_of_eq (List.length_map ..)) (Nat.le_trans (List.length_filter_le ..) (G.flen hf))
theorem f_mem (p : Plan) : "f" ∈ p.fields := by unfold Plan.fields; split <;> exact .head _
theorem fac_ok (G : Good p γ α β) (he : getDc σ e = some []) (hm : Many4 p.fact) : TrIs C 80 (facE p) (hG p γ) e σ ((α p.owner).all (mm p.fact (β "f"))) :=
  all_ok (K := 60) G G.own (env := []) he (by decide) (by decide) (fun a => List.pairwise_singleton ..) fun a σ' e' h' => by
    have := tr_many hm (val_set (C := C) G (f_mem p) h' (env_this (r := []))) (val_len G (f_mem p))
    rw [List.length_map] at this
    exact this
theorem fac_fts (G : Good p γ α β) (he : getDc σ e = some []) (hm : p.fact = "" ∨ Many4 p.fact) : FTs C 80 20 (hG p γ) e σ (facF p x) (factB p x (α x) (β "f")) := by
  unfold facF factB
  cases q : x == p.owner with
  | false => exact .nil
  | true => cases q2 : p.fact == "" with
    | true => exact .nil
    | false => exact (eq_of_beq q) ▸ .one (fac_ok G he (hm.resolve_left fun h => absurd (beq_iff_eq.mpr h) (by rw [q2]; exact Bool.false_ne_true))) fun k => by kernel_rfl
theorem sig_fts (G : Good p γ α β) (hx : x ∈ p.names) (hk : p.part ≤ 2) {mu : String} (hm : Mu4 mu) (he : getDc σ e = some []) (hf : p.fact = "" ∨ Many4 p.fact) : FTs C 80 20 (hG p γ) e σ (sigF p x mu) (sigB p α mu x (β "f")) :=
  .app ((in_fts G hx (fun y => sup_names hk) (by
    unfold supL supG
    cases ["C", "D"].contains x with
    | true => exact (by decide : ["A"].length ≤ 2)
    | false =>
      show (if x == "E" then ["A", "B"].take p.part else []).length ≤ 2
      split
      · exact List.length_take_le' ..
      · decide)).up (by decide)) (.app ((mul_fts G hx hm).up (by decide)) (.app ((FTs.cond (x == "A") fun q => eq_of_beq q ▸ ch_fts G).up (by decide)) (fac_fts G he hf)))
end
theorem all_congr {α : Type} {f g : α → Bool} {l : List α} : (∀ a ∈ l, f a = g a) → l.all f = l.all g := by
  induction l with
  | nil => exact fun _ => rfl
  | cons a l ih => exact fun h => (congr (congrArg and (h a (.head _))) (ih fun b m => h b (.tail _ m)) : (f a && l.all f) = (g a && l.all g))
abbrev Mu5 (s : String) : Prop := s = "" ∨ s = "set" ∨ s = "one" ∨ s = "lone" ∨ s = "some"
def marked (s : String) : Bool := !["", "set"].contains s
theorem Mu5.s {s : String} (h : Mu5 s) : ManyS s := h.elim (fun h => .inr (.inl h)) fun h => h.elim (fun h => .inr (.inr (.inl h))) fun h => Many4.s (.inr h)
theorem Mu5.m4 {s : String} (h : Mu5 s) (q : marked s = true) : Many4 s := by
  rcases h with rfl | rfl | h
  · exact nomatch q
  · exact nomatch q
  · exact .inr h
theorem unmarked {s : String} (h : Mu5 s) (q : marked s = false) (c : Int) : manyB s c = true := by
  rcases h with rfl | rfl | rfl | rfl | rfl <;> first | rfl | exact nomatch q
def eachN : Nat → String
  | 1 => "each'1"
  | 2 => "each'2"
  | 3 => "each'3"
  | _ => "each'4"
theorem each_ne (k : Nat) : (eachN k == "this") = false := by
  unfold eachN
  split <;> rfl
abbrev Plan.fnum (p : Plan) (f : String) : Nat := p.num (p.owner ++ "." ++ f)
def exE (p : Plan) : Nat → V
  | 0 => relE (p.num "B")
  | 1 => relE (p.num "A")
  | _ => unE (relE (p.num "A")) (relE (p.num "B"))
abbrev valueE (p : Plan) (f : String) : V := joE (varE "this") (relE (p.fnum f))
def rightE (p : Plan) (f s : String) : V := allE s (relE (p.num "B")) (manyE p.right (joE (varE s) (valueE p f)))
def leftE (p : Plan) (f s : String) : V := allE s (relE (p.num "A")) (manyE p.left (joE (valueE p f) (varE s)))
def cR (p : Plan) : Nat := cond (marked p.right) 1 0
def boundF (p : Plan) (f : String) (c : Nat) : List V :=
  cond (decide ((p.kind : Int) < 3)) ([inE (valueE p f) (exE p p.kind)] ++ cond (marked (mult1 p)) [manyE (mult1 p) (valueE p f)] [])
    ([inE (valueE p f) (prE (relE (p.num "B")) (relE (p.num "A")))] ++ (cond (marked p.right) [rightE p f (eachN (c + 1))] [] ++ cond (marked p.left) [leftE p f (eachN (c + cR p + 1))] []))
def thisE (p : Plan) (f : String) (c : Nat) : V := allE "this" (relE (p.num p.owner)) (joinF (boundF p f c))
def fieldF (p : Plan) (f : String) (c : Nat) : List V :=
  [inE (relE (p.fnum f)) (ahE (relE (p.num p.owner)) (relE (p.fnum f)))] ++ ([thisE p f c] ++ cond (f == "f") [] [manyE "no" (meE (relE (p.fnum "f")) (relE (p.fnum f)))])
def valW (β : String → Rel) (f : String) (a : Int) : Rel := ((β f).filter fun r => r0 r == a).map List.tail
section
variable {C : Cx} {p : Plan} {γ : String → Rel} {α : String → List Int} {β : String → Rel} {σ : List Cell} {h e : V} {K d : Nat} {x y f : String} {a : Int} {fs gs : List V} {b c : Bool}
theorem ent_each {o : Int} (k : Nat) : lkp (entV [("this", a), (eachN k, o)]) (S (eachN k)) = some (.int o) := by
  show (match sq (S (eachN k)) (S "this") with | true => some (V.int a) | false => (match sq (S (eachN k)) (S (eachN k)) with | true => some (V.int o) | false => none)) = _
  rw [sq_lit, each_ne k, sq_self]
theorem valW_row (G : Good p γ α β) (hf : f ∈ p.fields) : ∀ r ∈ valW β f a, r.length = cond (decide ((p.kind : Int) < 3)) 1 2 := fun r m => by
  obtain ⟨s, m2, rfl⟩ := List.mem_map.mp m
  rw [List.length_tail, G.row f hf s (List.mem_filter.mp m2).1]
  cases decide ((p.kind : Int) < 3) <;> rfl
theorem len12 {r : List Int} {b : Bool} (h : r.length = cond b 1 2) : RowE r ∧ r ≠ [] := by
  have l : 1 ≤ r.length ∧ r.length ≤ 100 := by rw [h]; cases b <;> decide
  have n := List.ne_nil_of_length_pos l.1
  exact ⟨row_e n l.2, n⟩
theorem valW_nd (G : Good p γ α β) (hf : f ∈ p.fields) : (valW β f a).Nodup := left_nd (G.fld f hf).2.2 fun r m => (len23 (G.row f hf r m)).1
theorem ex_set (G : Good p γ α β) (k : Nat) : ∃ B, SetIs C 40 (exE p k) (hG p γ) e σ B ∧ ∀ a, B.contains [a] = (wholeL α k).contains a := by
  have sA := G.sset (names_A p) (C := C) (e := e) (σ := σ)
  have sB := G.sset (names_B p) (C := C) (e := e) (σ := σ)
  match k with
  | 0 => exact ⟨_, sB.up (by decide), fun _ => at1_in⟩
  | 1 => exact ⟨_, sA.up (by decide), fun _ => at1_in⟩
  | k + 2 => exact ⟨_, set_un sA sB (G.slen (names_A p)) (G.slen (names_B p)), fun a => by rw [un_in, at1_in, at1_in]; exact List.contains_append.symm⟩
theorem at1_row {r : List Int} {as : List Int} (m : r ∈ at1 as) : RowE r := by
  obtain ⟨a, _, rfl⟩ := List.mem_map.mp m
  exact row_e (fun h => nomatch h) (by show 1 ≤ 100; decide)
theorem at1_len {r : List Int} {as : List Int} (m : r ∈ at1 as) : r.length ≤ 100 := by
  obtain ⟨a, _, rfl⟩ := List.mem_map.mp m
  show 1 ≤ 100
  decide
theorem each_nd (k : Nat) (o : Int) : (([("this", a)] ++ [(eachN k, o)] : Ent).map (·.1)).Nodup := by
  refine List.nodup_cons.mpr ⟨fun m => ?_, List.pairwise_singleton ..⟩
  have := each_ne k
  rw [← (List.mem_singleton.mp m : "this" = eachN k)] at this
  exact nomatch this
theorem right_ok (G : Good p γ α β) (hf : f ∈ p.fields) (k : Nat) (he : getDc σ e = some (entV [("this", a)])) (hm : Many4 p.right) : TrIs C 100 (rightE p f (eachN k)) (hG p γ) e σ ((α "B").all fun o => manyB p.right ((valW β f a).filter fun r => r0 r == o).length) :=
  all_ok (K := 80) G (names_B p) (env := [("this", a)]) he (by show 1 ≤ 100; decide) (by decide) (each_nd k) fun o σ' e' h' => by
    have w := fun r m => len12 (valW_row G hf (a := a) r m)
    have := tr_many hm (jo_left (a := o) (valW_nd G hf) (fun r m => (w r m).2) ▸ set_jo ((set_var (C := C) h' (ent_each k)).up (by decide)) (val_set G hf h' (env_this (r := [(eachN k, o)]))) (by show 1 ≤ 200; decide) (val_len G hf) (fun r m => at1_row (as := [o]) m) fun r m => (w r m).1) (Nat.le_trans (Nat.le_of_eq (List.length_map ..)) (Nat.le_trans (List.length_filter_le ..) (val_len G hf)))
    rw [List.length_map] at this
    exact this
theorem left_ok (G : Good p γ α β) (hf : f ∈ p.fields) (k : Nat) (hk : decide ((p.kind : Int) < 3) = false) (he : getDc σ e = some (entV [("this", a)])) (hm : Many4 p.left) : TrIs C 100 (leftE p f (eachN k)) (hG p γ) e σ ((α "A").all fun o => manyB p.left ((valW β f a).filter fun r => r1 r == o).length) :=
  all_ok (K := 80) G (names_A p) (env := [("this", a)]) he (by show 1 ≤ 100; decide) (by decide) (each_nd k) fun o σ' e' h' => by
    have w := fun r m => valW_row G hf (a := a) r m
    have := tr_many hm (jo_right (b := o) (valW_nd G hf) (fun r m => (w r m).trans (by rw [hk]; rfl)) ▸ set_jo (val_set G hf h' (env_this (r := [(eachN k, o)]))) ((set_var (C := C) h' (ent_each k)).up (by decide)) (val_len G hf) (by show 1 ≤ 200; decide) (fun r m => (len12 (w r m)).1) (fun r m => at1_row (as := [o]) m)) (Nat.le_trans (Nat.le_of_eq (List.length_map ..)) (Nat.le_trans (List.length_filter_le ..) (val_len G hf)))
    rw [List.length_map] at this
    exact this
theorem FTs.mark {s : String} {v : V} {t : Int → Nat} {L : List Int} (hs : Mu5 s) (x : Many4 s → FTs C K d h e σ [v] (L.all fun o => manyB s (t o))) : FTs C K d h e σ (bif marked s then [v] else []) (L.all fun o => manyB s (t o)) := by
  cases q : marked s with
  | true => exact x (hs.m4 q)
  | false => exact FTs.nil.to (List.all_eq_true.mpr fun o _ => unmarked hs q _).symm
theorem mult1_5 (h : Mu5 p.mult) : Mu5 (mult1 p) := by
  unfold mult1
  cases p.mult == "" with
  | true => exact .inr (.inr (.inl rfl))
  | false => exact h
theorem bound_fts (G : Good p γ α β) (hf : f ∈ p.fields) {c : Nat} (he : getDc σ e = some (entV [("this", a)])) (hm : Mu5 p.mult) (hr : Mu5 p.right) (hl : Mu5 p.left) : FTs C 100 10 (hG p γ) e σ (boundF p f c) (valB p α (valW β f a)) := by
  have v : SetIs C 40 (valueE p f) (hG p γ) e σ (valW β f a) := val_set G hf he (env_this (r := []))
  have l : (valW β f a).length ≤ 200 := val_len G hf
  have w := valW_row G hf (a := a)
  unfold boundF valB
  cases hk : decide ((p.kind : Int) < 3) with
  | true =>
    obtain ⟨B, s, hB⟩ := ex_set (C := C) (e := e) (σ := σ) G p.kind
    refine .app (.one ?_ fun k => ?_) ?_
    · have := tr_in v s l
      rw [all_congr (g := fun r => (wholeL α p.kind).contains (r0 r)) fun r m => ?_] at this
      · exact this.up (by decide)
      · have n := w r m
        rw [hk] at n
        exact (congrArg B.contains (r0_tail (List.ne_nil_of_length_pos (by rw [n]; decide))) : B.contains r = _).trans (by rw [List.eq_nil_of_length_eq_zero (List.length_tail.trans (congrArg (· - 1) n))]; exact hB _)
    · unfold exE
      split <;> kernel_rfl
    · cases q : marked (mult1 p) with
      | true => exact .one ((tr_many ((mult1_5 hm).m4 q) v l).up (by decide)) fun k => by kernel_rfl
      | false => exact FTs.nil.to (unmarked (mult1_5 hm) q _).symm
  | false =>
    rw [hk] at w
    refine .app (.one ?_ fun k => by kernel_rfl) (.app (.mark hr fun q => .one (right_ok G hf _ he q) fun k => by kernel_rfl) (.mark hl fun q => .one (left_ok G hf _ hk he q) fun k => by kernel_rfl))
    have := tr_in v (set_pr (G.sset (names_B p)) (G.sset (names_A p)) (G.slen (names_B p)) (G.slen (names_A p)) (fun r m => at1_len m) fun r m => at1_len m) l
    rw [all_congr (g := fun r => (α "B").contains (r0 r) && (α "A").contains (r1 r)) fun r m => (congrArg _ (r01 (w r m))).trans pr_in] at this
    exact this.up (by decide)
theorem field_fts (G : Good p γ α β) (hf : f ∈ p.fields) {c : Nat} (he : getDc σ e = some []) (hm : Mu5 p.mult) (hr : Mu5 p.right) (hl : Mu5 p.left) (hb : boundF p f c ≠ []) (lb : (boundF p f c).length ≤ 1000) : FTs C 140 20 (hG p γ) e σ (fieldF p f c) (fieldB p α (β f) f (β "f")) := by
  have s := G.fset (C := C) hf (e := e) (σ := σ)
  have w := fun r m => len23 (G.row f hf r m)
  refine .app (.one ?_ fun k => by kernel_rfl) (.app (.one ?_ fun k => ?_) ?_)
  · have := tr_in (s.up (by decide)) (set_ah (G.sset G.own) s (G.flen hf) fun r m => (w r m).2.2) (G.flen hf)
    rw [all_congr (g := fun r => (α p.owner).contains (r0 r)) fun r m => ?_] at this
    · exact this.up (by decide)
    · exact (ah_in m).trans ((congrArg (fun r : List Int => (at1 (α p.owner)).contains (r.take 1)) (r0_tail (w r m).1)).trans at1_in)
  · exact all_ok (K := 120) G G.own (env := []) he (by decide) (by decide) (fun a => List.pairwise_singleton ..) fun a σ' e' h' => ((bound_fts G hf h' hm hr hl).join hb lb (by decide)).1
  · have := fun k => ((bound_fts (C := C) (e := .dct (entV [("this", 0)])) (σ := σ) (a := 0) G hf rfl hm hr hl).join hb lb (by decide)).2 k
    unfold thisE
    rw [show (allE "this" (relE (p.num p.owner)) (joinF (boundF p f c))).pl (k + 20) = ((joinF (boundF p f c)).pl (k + 7 + 10 + 2) && true) from by kernel_rfl, this]
    rfl
  · cases q : f == "f" with
    | true => exact .nil
    | false =>
      have := tr_many (s := "no") (.inl rfl) (set_me (G.fset (C := C) (f_mem p) (e := e) (σ := σ)) s (G.flen (f_mem p))) (Nat.le_trans (List.length_filter_le ..) (G.flen (f_mem p)))
      rw [me_no] at this
      exact .one (this.up (by decide)) fun k => by kernel_rfl
end
theorem con_to {C : Cx} {K : Nat} {F : FnT} {q : Qu} {ds : List V} {σ σ' : List Cell} {v : V} {P : Prop → Prop} (p : ∀ E, E → P E) (e : evFn (ev C tab K) [] F q ds σ (fun _ d s => d = v ∧ s = σ') = P (v = v ∧ σ' = σ')) : Con C tab K F ds σ v σ' :=
  run_ok (lk := []) (q := q) (e.mpr (p _ ⟨rfl, rfl⟩))
theorem chk_of {b : Bool} {P : Prop} (h : b = true) (x : P) : chk b P := h ▸ x
def feedC (cs : List Int) (k : Nat) : Cell := .dict [(S "cells", .lst (cs.map .int)), (S "spot", .int k)]
def drI (cs : List Int) (k : Nat) : Int := cond (decide ((k : Int) < cs.length)) (cs.getD k 0) (5 * (k : Int) * k + 7 * k + 3)
def drn (cs : List Int) (k w : Nat) : Nat := ((drI cs k).fmod w).toNat
theorem drn_int (cs : List Int) (k : Nat) {w : Nat} (hw : 0 < w) : (drI cs k).fmod w = drn cs k w := (Int.toNat_of_nonneg (Int.fmod_nonneg_of_pos _ (Int.ofNat_lt.mpr hw))).symm
theorem drn_lt (cs : List Int) (k : Nat) {w : Nat} (hw : 0 < w) : drn cs k w < w := by
  refine Int.ofNat_lt.mp ?_
  rw [← drn_int cs k hw]
  exact Int.fmod_lt_of_pos _ (Int.ofNat_lt.mpr hw)
theorem mod_of (i : Int) {w : Nat} (s : List Cell) (hw : 0 < w) : evBop .Mod (.int i) (.int w) s = some (.int (i.fmod w)) := grd_of ((Bool.not_eq_true' _).mpr (beq_eq_false_iff_ne.mpr (Int.ne_of_gt (Int.ofNat_lt.mpr hw : (0 : Int) < w))))
theorem mul_of {i : Int} (j : Int) (s : List Cell) (h1 : -2 ^ 60 < i) (h2 : i < 2 ^ 60) : evBop .Mult (.int i) (.int j) s = some (.int (i * j)) := grd_of (Bool.and_eq_true_iff.mpr ⟨decide_eq_true h1, decide_eq_true h2⟩)
section
variable {C : Cx} {τ : List Cell} {cs : List Int} {k w : Nat}
theorem keep_0 (lk : List Nat) (h : ∀ n ∈ lk, n ≠ 0) (a b : Cell) : Keep lk (a :: τ) (b :: τ) := fun n m c e => by
  cases n with
  | zero => exact absurd rfl (h 0 m)
  | succ n => exact e
theorem draw_ok (hc : cs.length ≤ 1000) (hk : k ≤ 10000) (hw : 0 < w) : Con C tab 20 f__law_draw [.loc 0, .int w] (feedC cs k :: τ) (.int (drn cs k w)) (feedC cs (k + 1) :: τ) := by
  have l := len_map (g := V.int) (xs := cs) (le5 hc) (feedC cs (k + 1) :: τ)
  rw [← drn_int cs k hw]
  unfold drI
  cases h : decide ((k : Int) < cs.length) with
  | true =>
    have e := List.getElem?_eq_getElem (Int.ofNat_lt.mp (of_decide_eq_true h) : k < cs.length)
    exact con_to (q := [.w 610044 (.int cs.length) (feedC cs (k + 1) :: τ), .b 610044 true, .v 610023 (.int (cs.getD k 0)), .v 610088 (.int ((cs.getD k 0).fmod w))]) (fun _ e' => ob l (ob (congrArg some h) (ob (at_of (σ := feedC cs (k + 1) :: τ) ((List.getElem?_map ..).trans ((congrArg (Option.map V.int) e).trans (congrArg (fun x : Int => some (V.int x)) (by rw [List.getD_eq_getElem?_getD, e]; rfl : cs[k]'_ = cs.getD k 0)))) (Nat.lt_of_le_of_lt hk (by decide))) (ob (mod_of (cs.getD k 0) (feedC cs (k + 1) :: τ) hw) e')))) (by kernel_rfl)
  | false =>
    have h1 : (-2 ^ 60 : Int) < 5 * (k : Int) := Int.lt_of_lt_of_le (by decide) (Int.mul_nonneg (by decide) (Int.natCast_nonneg k))
    have h2 : 5 * (k : Int) < 2 ^ 60 := Int.lt_of_le_of_lt (Int.mul_le_mul_of_nonneg_left (Int.ofNat_le.mpr hk) (by decide)) (by decide)
    exact con_to (q := [.w 610044 (.int cs.length) (feedC cs (k + 1) :: τ), .b 610044 false, .v 610065 (.int (5 * (k : Int) * k)), .v 610088 (.int ((5 * (k : Int) * k + 7 * k + 3).fmod w))]) (fun _ e' => ob l (ob (congrArg some h) (ob (mul_of k (feedC cs (k + 1) :: τ) h1 h2) (ob (mod_of (5 * (k : Int) * k + 7 * k + 3) (feedC cs (k + 1) :: τ) hw) e')))) (by kernel_rfl)
end
abbrev mults : List String := ["", "one", "lone", "some", "set"]
abbrev multS (i : Nat) : String := mults.getD i ""
abbrev facts : List String := ["", "some", "no"]
abbrev factS (i : Nat) : String := facts.getD i ""
def planD (cs : List Int) : Plan := ⟨(drn cs 0 2 : Int) == 1, drn cs 1 3, drn cs 2 3, multS (drn cs 3 4), multS (drn cs 4 4), multS (drn cs 5 4), multS (drn cs 6 4), multS (drn cs 7 4), (drn cs 8 2 : Int) == 1 && !(kidsL (drn cs 1 3)).isEmpty, drn cs 9 4, multS (drn cs 10 5), multS (drn cs 11 5), cond (decide ((drn cs 9 4 : Int) < 3)) (multS (drn cs 12 5)) "", (drn cs 13 2 : Int) == 1, factS (drn cs 14 3)⟩
def muL (p : Plan) : List (Str × V) := [(S "A", sv p.mA), (S "B", sv p.mB), (S "C", sv p.mC), (S "D", sv p.mD), (S "E", sv p.mE)]
def pdL (p : Plan) : List (Str × V) := [(S "abstract", .bool p.ab), (S "kids", .tup (strsV (kidsL p.kids))), (S "part", .int p.part), (S "mults", .loc 2), (S "owner", sv p.owner), (S "kind", .int p.kind), (S "left", sv p.left), (S "right", sv p.right), (S "mult", sv p.mult), (S "fields", .tup (strsV p.fields)), (S "fact", sv p.fact), (S "names", .tup (strsV p.names))]
abbrev mdS (cs : List Int) (k n : Nat) : List Cell := [feedC cs k, .dict ((pdL (planD cs)).take n), .dict (muL (planD cs))]
abbrev mdM : M := [(S "plan", .loc 1), (S "feed", .loc 0)]
theorem con_seq2 {C : Cx} {K : Nat} {F : FnT} {ds : List V} {σ σ' s : List Cell} {v d : V} {R : Qu → KX → Prop} {q1 : Qu → Qu} {m : M} {P : Prop → Prop} (K0 : KX) (t : To2 R (.ret d) m s) (f : K0 [] (.ret d) m s) (p : ∀ E, E → P E) (e : ∀ q, evFn (ev C tab K) [] F (q1 q) ds σ (fun _ d s => d = v ∧ s = σ') = P (R q K0)) : Con C tab K F ds σ v σ' := (t _ f).elim fun q h => run_ok (lk := []) (q := q1 q) ((e q).mpr (p _ h))
theorem idx_str (l : List String) {i : Nat} (s : List Cell) (h : i < l.length) (h2 : i < 100000) : evIdx (.tup (strsV l)) (.int i) s = some (sv (l.getD i "")) :=
  at_of (σ := s) (xs := strsV l) ((List.getElem?_map ..).trans ((congrArg (Option.map sv) (List.getElem?_eq_getElem h)).trans (congrArg (fun x => some (sv x)) (by rw [List.getD_eq_getElem?_getD, List.getElem?_eq_getElem h]; rfl : l[i] = l.getD i "")))) h2
theorem kids_take (i : Nat) : ["C", "D"].take i = kidsL i := by
  cases i with
  | zero => rfl
  | succ i => cases i with
    | zero => rfl
    | succ i => exact congrArg (fun l => "C" :: "D" :: l) List.take_nil
theorem slc_strs {l : List String} {i : Nat} (s : List Cell) (h : l.length ≤ 1000) : slcR s none (some i) (.tup (strsV l)) = some (.tup (strsV (l.take i))) :=
  (lt_of (σ := s) (d := .tup (strsV l)) (g := fun xs => V.tup (slc xs none (some i))) rfl (by rw [strs_len]; exact le5 h)).trans (congrArg (fun l => some (V.tup l)) ((slc_nat _ i).trans List.map_take.symm))
theorem add_strsV {a b : List String} (s : List Cell) (l : a.length + b.length ≤ 10000) : evBop .Add (.tup (strsV a)) (.tup (strsV b)) s = some (.tup (strsV (a ++ b))) := by
  show grd (Nat.ble ((strsV a).length + (strsV b).length) 10000) (V.tup (strsV a ++ strsV b)) = _
  rw [strs_len, strs_len]
  unfold strsV
  rw [← List.map_append]
  exact grd_of (Nat.ble_eq_true_of_le l)
section
variable {C : Cx} {cs : List Int}
theorem dob (C : Cx) (hc : cs.length ≤ 1000) (k w : Nat) (τ : List Cell) (hk : k ≤ 10000) (hw : 0 < w) {E : Prop} (e : E) : Con C tab 20 f__law_draw [.loc 0, .int w] (feedC cs k :: τ) (.int (drn cs k w)) (feedC cs (k + 1) :: τ) ∧ (Keep [] (feedC cs k :: τ) (feedC cs (k + 1) :: τ) ∧ E) := ⟨draw_ok hc hk hw, fun _ m => absurd m List.not_mem_nil, e⟩
abbrev mdN : Nk := f__law_model.sc.names
theorem md_9 : To2 (Seg (ev C tab 51) [] mdN 621084 (f__law_model.body.drop 9) mdM (mdS cs 15 11)) (.ret (.loc 1)) mdM (mdS cs 15 12) := by
  have l := kids_len (planD cs).kids
  have l2 : (["A", "B"] ++ kidsL (planD cs).kids).length ≤ 4 := by rw [List.length_append]; exact Nat.add_le_add_left l 2
  have a := add_strsV (a := ["A", "B"]) (b := kidsL (planD cs).kids) (mdS cs 15 11) (Nat.le_trans (Nat.add_le_add_left l _) (by decide))
  have g : evIdx (.loc 1) (sv "kids") (mdS cs 15 11) = some (.tup (strsV (kidsL (planD cs).kids))) := by kernel_rfl
  have o := fun b => add_strsV (a := ["A", "B"] ++ kidsL (planD cs).kids) (b := b) (mdS cs 15 11)
  cases q : decide ((0 : Int) < (planD cs).part) with
  | true =>
    have n : (planD cs).names = ["A", "B"] ++ kidsL (planD cs).kids ++ ["E"] := (congrArg (fun b => ["A", "B"] ++ (kidsL (planD cs).kids ++ b)) (if_pos (Int.ofNat_lt.mp (of_decide_eq_true q)))).trans (List.append_assoc ..).symm
    have f : mdS cs 15 12 = [feedC cs 15, .dict ((pdL (planD cs)).take 11 ++ [(S "names", .tup (strsV (["A", "B"] ++ kidsL (planD cs).kids ++ ["E"])))]), .dict (muL (planD cs))] := n ▸ rfl
    rw [f]
    exact seg_of (q := [.v 621045 (.tup (strsV (kidsL (planD cs).kids))), .v 621045 (.tup (strsV (["A", "B"] ++ kidsL (planD cs).kids))), .b 621075 true, .v 621084 (.tup (strsV (["A", "B"] ++ kidsL (planD cs).kids ++ ["E"])))]) (fun _ e => ob g (ob a (ob (congrArg some q) (ob (o ["E"] (Nat.le_trans (Nat.add_le_add_right l2 1) (by decide))) e)))) fun k => by kernel_rfl
  | false =>
    have n : (planD cs).names = ["A", "B"] ++ kidsL (planD cs).kids ++ [] := (congrArg (fun b => ["A", "B"] ++ (kidsL (planD cs).kids ++ b)) (if_neg fun h => Bool.false_ne_true (q.symm.trans (decide_eq_true (Int.ofNat_lt.mpr h))))).trans (List.append_assoc ..).symm
    have f : mdS cs 15 12 = [feedC cs 15, .dict ((pdL (planD cs)).take 11 ++ [(S "names", .tup (strsV (["A", "B"] ++ kidsL (planD cs).kids ++ [])))]), .dict (muL (planD cs))] := n ▸ rfl
    rw [f]
    exact seg_of (q := [.v 621045 (.tup (strsV (kidsL (planD cs).kids))), .v 621045 (.tup (strsV (["A", "B"] ++ kidsL (planD cs).kids))), .b 621075 false, .v 621084 (.tup (strsV (["A", "B"] ++ kidsL (planD cs).kids ++ [])))]) (fun _ e => ob g (ob a (ob (congrArg some q) (ob (o [] (Nat.le_trans l2 (by decide))) e)))) fun k => by kernel_rfl
theorem md_7 (hc : cs.length ≤ 1000) : To2 (Seg (ev C tab 53) [] mdN 619070 (f__law_model.body.drop 7) mdM (mdS cs 13 9)) (.ret (.loc 1)) mdM (mdS cs 15 12) := by
  have t := md_9 (C := C) (cs := cs)
  cases q : (drn cs 13 2 : Int) == 1 with
  | true =>
    have n : (planD cs).fields = ["f", "g"] := by
      show (if ((drn cs 13 2 : Int) == 1) = true then _ else _) = _
      rw [q]; rfl
    have f : mdS cs 15 11 = [feedC cs 15, .dict ((pdL (planD cs)).take 9 ++ [(S "fields", .tup (strsV ["f", "g"])), (S "fact", sv (factS (drn cs 14 3)))]), .dict (muL (planD cs))] := n ▸ rfl
    rw [f] at t
    exact seg_seq t (q1 := fun q => .d 619053 20 (.int (drn cs 13 2)) (mdS cs 14 9) :: .b 619058 true :: .d 620056 20 (.int (drn cs 14 3)) [feedC cs 15, .dict ((pdL (planD cs)).take 9 ++ [(S "fields", .tup (strsV ["f", "g"]))]), .dict (muL (planD cs))] :: .v 620057 (sv (factS (drn cs 14 3))) :: .m 621084 :: q)
      (fun _ e => dob C hc 13 2 [.dict ((pdL (planD cs)).take 9), .dict (muL (planD cs))] (by decide) (by decide) (ob (congrArg some q) (dob C hc 14 3 [.dict ((pdL (planD cs)).take 9 ++ [(S "fields", .tup (strsV ["f", "g"]))]), .dict (muL (planD cs))] (by decide) (by decide) (ob (idx_str facts [feedC cs 15, .dict ((pdL (planD cs)).take 9 ++ [(S "fields", .tup (strsV ["f", "g"]))]), .dict (muL (planD cs))] (drn_lt cs 14 (by decide)) (Nat.lt_trans (drn_lt cs 14 (by decide)) (by decide))) e)))) fun k q => by kernel_rfl
  | false =>
    have n : (planD cs).fields = ["f"] := by
      show (if ((drn cs 13 2 : Int) == 1) = true then _ else _) = _
      rw [q]; rfl
    have f : mdS cs 15 11 = [feedC cs 15, .dict ((pdL (planD cs)).take 9 ++ [(S "fields", .tup (strsV ["f"])), (S "fact", sv (factS (drn cs 14 3)))]), .dict (muL (planD cs))] := n ▸ rfl
    rw [f] at t
    exact seg_seq t (q1 := fun q => .d 619053 20 (.int (drn cs 13 2)) (mdS cs 14 9) :: .b 619058 false :: .d 620056 20 (.int (drn cs 14 3)) [feedC cs 15, .dict ((pdL (planD cs)).take 9 ++ [(S "fields", .tup (strsV ["f"]))]), .dict (muL (planD cs))] :: .v 620057 (sv (factS (drn cs 14 3))) :: .m 621084 :: q)
      (fun _ e => dob C hc 13 2 [.dict ((pdL (planD cs)).take 9), .dict (muL (planD cs))] (by decide) (by decide) (ob (congrArg some q) (dob C hc 14 3 [.dict ((pdL (planD cs)).take 9 ++ [(S "fields", .tup (strsV ["f"]))]), .dict (muL (planD cs))] (by decide) (by decide) (ob (idx_str facts [feedC cs 15, .dict ((pdL (planD cs)).take 9 ++ [(S "fields", .tup (strsV ["f"]))]), .dict (muL (planD cs))] (drn_lt cs 14 (by decide)) (Nat.lt_trans (drn_lt cs 14 (by decide)) (by decide))) e)))) fun k q => by kernel_rfl
theorem md_3 (hc : cs.length ≤ 1000) : To2 (Seg (ev C tab 57) [] mdN 615037 (f__law_model.body.drop 3) mdM (mdS cs 9 5)) (.ret (.loc 1)) mdM (mdS cs 15 12) := by
  have t := md_7 (C := C) (cs := cs) hc
  cases q : decide ((drn cs 9 4 : Int) < 3) with
  | true =>
    have n : (planD cs).mult = multS (drn cs 12 5) := by
      show cond (decide ((drn cs 9 4 : Int) < 3)) _ _ = _
      rw [q]; rfl
    have f : mdS cs 13 9 = [feedC cs 13, .dict ((pdL (planD cs)).take 8 ++ [(S "mult", sv (multS (drn cs 12 5)))]), .dict (muL (planD cs))] := n ▸ rfl
    rw [f] at t
    exact seg_seq t (q1 := fun q => .d 615037 20 (.int (drn cs 9 4)) [feedC cs 10, .dict ((pdL (planD cs)).take 5), .dict (muL (planD cs))] :: .d 616064 20 (.int (drn cs 10 5)) [feedC cs 11, .dict ((pdL (planD cs)).take 6), .dict (muL (planD cs))] :: .v 616065 (sv (multS (drn cs 10 5))) :: .d 616096 20 (.int (drn cs 11 5)) [feedC cs 12, .dict ((pdL (planD cs)).take 6), .dict (muL (planD cs))] :: .v 616097 (sv (multS (drn cs 11 5))) :: .d 617048 20 (.int (drn cs 12 5)) [feedC cs 13, .dict ((pdL (planD cs)).take 8), .dict (muL (planD cs))] :: .v 617049 (sv (multS (drn cs 12 5))) :: .b 618051 true :: .m 619070 :: q)
      (fun _ e => dob C hc 9 4 [.dict ((pdL (planD cs)).take 5), .dict (muL (planD cs))] (by decide) (by decide) (dob C hc 10 5 [.dict ((pdL (planD cs)).take 6), .dict (muL (planD cs))] (by decide) (by decide) (ob (idx_str mults [feedC cs 11, .dict ((pdL (planD cs)).take 6), .dict (muL (planD cs))] (drn_lt cs 10 (by decide)) (Nat.lt_trans (drn_lt cs 10 (by decide)) (by decide))) (dob C hc 11 5 [.dict ((pdL (planD cs)).take 6), .dict (muL (planD cs))] (by decide) (by decide) (ob (idx_str mults [feedC cs 12, .dict ((pdL (planD cs)).take 6), .dict (muL (planD cs))] (drn_lt cs 11 (by decide)) (Nat.lt_trans (drn_lt cs 11 (by decide)) (by decide))) (dob C hc 12 5 [.dict ((pdL (planD cs)).take 8), .dict (muL (planD cs))] (by decide) (by decide) (ob (idx_str mults [feedC cs 13, .dict ((pdL (planD cs)).take 8), .dict (muL (planD cs))] (drn_lt cs 12 (by decide)) (Nat.lt_trans (drn_lt cs 12 (by decide)) (by decide))) (ob (congrArg some q) e)))))))) fun k q => by kernel_rfl
  | false =>
    have n : (planD cs).mult = "" := by
      show cond (decide ((drn cs 9 4 : Int) < 3)) _ _ = _
      rw [q]; rfl
    have f : mdS cs 13 9 = [feedC cs 13, .dict ((pdL (planD cs)).take 8 ++ [(S "mult", sv (""))]), .dict (muL (planD cs))] := n ▸ rfl
    rw [f] at t
    exact seg_seq t (q1 := fun q => .d 615037 20 (.int (drn cs 9 4)) [feedC cs 10, .dict ((pdL (planD cs)).take 5), .dict (muL (planD cs))] :: .d 616064 20 (.int (drn cs 10 5)) [feedC cs 11, .dict ((pdL (planD cs)).take 6), .dict (muL (planD cs))] :: .v 616065 (sv (multS (drn cs 10 5))) :: .d 616096 20 (.int (drn cs 11 5)) [feedC cs 12, .dict ((pdL (planD cs)).take 6), .dict (muL (planD cs))] :: .v 616097 (sv (multS (drn cs 11 5))) :: .d 617048 20 (.int (drn cs 12 5)) [feedC cs 13, .dict ((pdL (planD cs)).take 8), .dict (muL (planD cs))] :: .v 617049 (sv (multS (drn cs 12 5))) :: .b 618051 false :: .m 619070 :: q)
      (fun _ e => dob C hc 9 4 [.dict ((pdL (planD cs)).take 5), .dict (muL (planD cs))] (by decide) (by decide) (dob C hc 10 5 [.dict ((pdL (planD cs)).take 6), .dict (muL (planD cs))] (by decide) (by decide) (ob (idx_str mults [feedC cs 11, .dict ((pdL (planD cs)).take 6), .dict (muL (planD cs))] (drn_lt cs 10 (by decide)) (Nat.lt_trans (drn_lt cs 10 (by decide)) (by decide))) (dob C hc 11 5 [.dict ((pdL (planD cs)).take 6), .dict (muL (planD cs))] (by decide) (by decide) (ob (idx_str mults [feedC cs 12, .dict ((pdL (planD cs)).take 6), .dict (muL (planD cs))] (drn_lt cs 11 (by decide)) (Nat.lt_trans (drn_lt cs 11 (by decide)) (by decide))) (dob C hc 12 5 [.dict ((pdL (planD cs)).take 8), .dict (muL (planD cs))] (by decide) (by decide) (ob (idx_str mults [feedC cs 13, .dict ((pdL (planD cs)).take 8), .dict (muL (planD cs))] (drn_lt cs 12 (by decide)) (Nat.lt_trans (drn_lt cs 12 (by decide)) (by decide))) (ob (congrArg some q) e)))))))) fun k q => by kernel_rfl
theorem seg_x {C : Cx} {n i j : Nat} {lk : List Nat} {nk : Nk} {body rest : List Stmt} {m m' mf : M} {σ σ' sf : List Cell} {f : Fl} {q1 : Qu → Qu} {P : Prop → Prop} (t : To2 (Seg (ev C tab n) lk nk j rest m' σ') f mf sf) (p : ∀ E, E → P E)
    (e : ∀ X k q, evX tab ⟨(ev C tab n).e, (ev C tab n).l, (ev C tab n).b, X⟩ lk nk body (.m i :: q1 q) m σ k = P (X lk nk rest (.m j :: q) m' σ' k)) : To2 (Seg (ev C tab (n + 1)) lk nk i body m σ) f mf sf := fun k hk => (t k hk).elim fun q h => ⟨q1 q, (e (ev C tab n).x k q).mpr (p _ h)⟩
theorem con_x {C : Cx} {K j : Nat} {F : FnT} {ds : List V} {σ σ' s : List Cell} {v d : V} {lk : List Nat} {m m0 : M} (K0 : KX) (t : To2 (Seg (ev C tab K) lk F.sc.names j F.body m0 σ) (.ret d) m s) (f : K0 [] (.ret d) m s) (e : ∀ X q, evFn ⟨(ev C tab K).e, (ev C tab K).l, (ev C tab K).b, X⟩ [] F (.m j :: q) ds σ (fun _ d s => d = v ∧ s = σ') = X lk F.sc.names F.body (.m j :: q) m0 σ K0) : Con C tab K F ds σ v σ' := (t _ f).elim fun q h => run_ok (lk := []) (q := .m j :: q) ((e _ q).mpr h)
theorem md_2 (hc : cs.length ≤ 1000) : To2 (Seg (ev C tab 58) [] mdN 614082 (f__law_model.body.drop 2) mdM (mdS cs 8 4)) (.ret (.loc 1)) mdM (mdS cs 15 12) := by
  have t := md_3 (C := C) (cs := cs) hc
  cases q : (drn cs 8 2 : Int) == 1 with
  | false =>
    have n : (planD cs).owner = "A" := by
      show (if ((drn cs 8 2 : Int) == 1 && !(kidsL (drn cs 1 3)).isEmpty) = true then "C" else "A") = _
      rw [q]; rfl
    have f : mdS cs 9 5 = [feedC cs 9, .dict ((pdL (planD cs)).take 4 ++ [(S "owner", sv "A")]), .dict (muL (planD cs))] := n ▸ rfl
    rw [f] at t
    exact seg_x t (q1 := fun q => .d 614045 20 (.int (drn cs 8 2)) (mdS cs 9 4) :: .b 614050 false :: .m 615037 :: q) (fun _ e => dob C hc 8 2 [.dict ((pdL (planD cs)).take 4), .dict (muL (planD cs))] (by decide) (by decide) (ob (congrArg some q) (e))) fun X k q => by kernel_rfl
  | true => cases q2 : (kidsL (drn cs 1 3)).isEmpty with
    | true =>
      have n : (planD cs).owner = "A" := by
        show (if ((drn cs 8 2 : Int) == 1 && !(kidsL (drn cs 1 3)).isEmpty) = true then "C" else "A") = _
        rw [q, q2]; rfl
      have f : mdS cs 9 5 = [feedC cs 9, .dict ((pdL (planD cs)).take 4 ++ [(S "owner", sv "A")]), .dict (muL (planD cs))] := n ▸ rfl
      rw [f] at t
      exact seg_x t (q1 := fun q => .d 614045 20 (.int (drn cs 8 2)) (mdS cs 9 4) :: .b 614050 true :: .b 614073 false :: .m 615037 :: q) (fun _ e => dob C hc 8 2 [.dict ((pdL (planD cs)).take 4), .dict (muL (planD cs))] (by decide) (by decide) (ob (congrArg some q) (ob (kids_nil (mdS cs 9 4) (l := kidsL (drn cs 1 3)) q2) e))) fun X k q => by kernel_rfl
    | false =>
      have n : (planD cs).owner = "C" := by
        show (if ((drn cs 8 2 : Int) == 1 && !(kidsL (drn cs 1 3)).isEmpty) = true then "C" else "A") = _
        rw [q, q2]; rfl
      have f : mdS cs 9 5 = [feedC cs 9, .dict ((pdL (planD cs)).take 4 ++ [(S "owner", sv "C")]), .dict (muL (planD cs))] := n ▸ rfl
      rw [f] at t
      exact seg_x t (q1 := fun q => .d 614045 20 (.int (drn cs 8 2)) (mdS cs 9 4) :: .b 614050 true :: .b 614073 true :: .m 615037 :: q) (fun _ e => dob C hc 8 2 [.dict ((pdL (planD cs)).take 4), .dict (muL (planD cs))] (by decide) (by decide) (ob (congrArg some q) (ob (kids_nil (mdS cs 9 4) (l := kidsL (drn cs 1 3)) q2) e))) fun X k q => by kernel_rfl
abbrev mdD (cs : List Int) : List (Str × V) := [(S "abstract", .bool ((drn cs 0 2 : Int) == 1)), (S "kids", (.tup (strsV (kidsL (drn cs 1 3))))), (S "part", .int (drn cs 2 3))]
theorem md_1 (hc : cs.length ≤ 1000) : To2 (Seg (ev C tab 59) [] mdN 613104 (f__law_model.body.drop 1) mdM [feedC cs 3, .dict (mdD cs)]) (.ret (.loc 1)) mdM (mdS cs 15 12) :=
  seg_x (md_2 (C := C) (cs := cs) hc) (q1 := fun q => .d 613062 20 (.int (drn cs 3 4)) [feedC cs 4, .dict (mdD cs)] :: .v 613063 (sv (multS (drn cs 3 4))) :: .d 613062 20 (.int (drn cs 4 4)) [feedC cs 5, .dict (mdD cs)] :: .v 613063 (sv (multS (drn cs 4 4))) :: .d 613062 20 (.int (drn cs 5 4)) [feedC cs 6, .dict (mdD cs)] :: .v 613063 (sv (multS (drn cs 5 4))) :: .d 613062 20 (.int (drn cs 6 4)) [feedC cs 7, .dict (mdD cs)] :: .v 613063 (sv (multS (drn cs 6 4))) :: .d 613062 20 (.int (drn cs 7 4)) [feedC cs 8, .dict (mdD cs)] :: .v 613063 (sv (multS (drn cs 7 4))) :: .m 614082 :: q) (fun _ e => dob C hc 3 4 [.dict (mdD cs)] (by decide) (by decide) (ob (idx_str mults [feedC cs 4, .dict (mdD cs)] (Nat.lt_trans (drn_lt cs 3 (w := 4) (by decide)) (by decide)) (Nat.lt_trans (drn_lt cs 3 (w := 4) (by decide)) (by decide))) (dob C hc 4 4 [.dict (mdD cs)] (by decide) (by decide) (ob (idx_str mults [feedC cs 5, .dict (mdD cs)] (Nat.lt_trans (drn_lt cs 4 (w := 4) (by decide)) (by decide)) (Nat.lt_trans (drn_lt cs 4 (w := 4) (by decide)) (by decide))) (dob C hc 5 4 [.dict (mdD cs)] (by decide) (by decide) (ob (idx_str mults [feedC cs 6, .dict (mdD cs)] (Nat.lt_trans (drn_lt cs 5 (w := 4) (by decide)) (by decide)) (Nat.lt_trans (drn_lt cs 5 (w := 4) (by decide)) (by decide))) (dob C hc 6 4 [.dict (mdD cs)] (by decide) (by decide) (ob (idx_str mults [feedC cs 7, .dict (mdD cs)] (Nat.lt_trans (drn_lt cs 6 (w := 4) (by decide)) (by decide)) (Nat.lt_trans (drn_lt cs 6 (w := 4) (by decide)) (by decide))) (dob C hc 7 4 [.dict (mdD cs)] (by decide) (by decide) (ob (idx_str mults [feedC cs 8, .dict (mdD cs)] (Nat.lt_trans (drn_lt cs 7 (w := 4) (by decide)) (by decide)) (Nat.lt_trans (drn_lt cs 7 (w := 4) (by decide)) (by decide))) e)))))))))) fun X k q => by kernel_rfl
theorem md_0 (hc : cs.length ≤ 1000) : To2 (Seg (ev C tab 60) [] mdN 612117 f__law_model.body [(S "feed", .loc 0)] [feedC cs 0]) (.ret (.loc 1)) mdM (mdS cs 15 12) :=
  seg_x (md_1 (C := C) (cs := cs) hc) (q1 := fun q => .d 612042 20 (.int (drn cs 0 2)) [feedC cs 1] :: .b 612047 ((drn cs 0 2 : Int) == 1) :: .d 612087 20 (.int (drn cs 1 3)) [feedC cs 2] :: .v 612088 (.tup (strsV (kidsL (drn cs 1 3)))) :: .d 612116 20 (.int (drn cs 2 3)) [feedC cs 3] :: .m 613104 :: q) (fun _ e => dob C hc 0 2 [] (by decide) (by decide) (ob (rfl : some ((drn cs 0 2 : Int) == 1) = some ((drn cs 0 2 : Int) == 1)) (dob C hc 1 3 [] (by decide) (by decide) (ob (kids_take (drn cs 1 3) ▸ slc_strs (l := ["C", "D"]) (i := drn cs 1 3) [feedC cs 2] (by decide) : slcR [feedC cs 2] none (some (drn cs 1 3)) (.tup (strsV ["C", "D"])) = some (.tup (strsV (kidsL (drn cs 1 3))))) (dob C hc 2 3 [] (by decide) (by decide) e))))) fun X k q => by kernel_rfl
theorem frk {f : V → Option V} {k : Str} {d d' : V} {r r' : List (Str × V)} (h : f d = some d') (t : frK f r = some r') : frK f ((k, d) :: r) = some ((k, d') :: r') := by
  show (f d).bind (fun p => (frK f r).map ((k, p) :: ·)) = _
  rw [h, t]
  rfl
theorem frt {σ : List Cell} {n j : Nat} {l : List V} (h : V.pls 30 l = true) : frd σ n (j + 1) (.tup l) = some (.tup l) := congrArg (fun b => (cond b (some l) (frL (frd σ n j) l)).map V.tup) h
theorem frd_plan : frd (mdS cs 15 12) 1 9 (.loc 1) = some (planV (planD cs)) :=
  congrArg (Option.map V.dct) (frk (f := frd (mdS cs 15 12) 1 8) rfl (frk (frt (pls_strs _)) (frk rfl (frk rfl (frk rfl (frk rfl (frk rfl (frk rfl (frk rfl (frk (frt (pls_strs _)) (frk rfl (frk (frt (pls_strs _)) rfl))))))))))))
theorem plks_feed (cs : List Int) (k n : Nat) : plks n [(S "cells", .lst (cs.map .int)), (S "spot", .int k)] = true := by
  show (V.pls 29 (cs.map .int) && _) = true
  rw [pls_ints]
  rfl
abbrev FinF (n : Nat) (τ : List Cell) (v : V) (σ' : List Cell) : KX := retK fun q d s => ask (An.pk 0) q (dcell s 0) fun q kvs => chk (plks n kvs) (ask (An.pv 0) q (frd s n 9 d) fun q d => d = v ∧ (τ.set 0 (.dict kvs)) = σ')
theorem model_ok (hc : cs.length ≤ 1000) : Con C tab 60 f__law_model [.loc 0] [feedC cs 0] (planV (planD cs)) [feedC cs 15] :=
  con_x (FinF 1 [feedC cs 0] (planV (planD cs)) [feedC cs 15]) (md_0 hc) (by
      show chk (plks 1 [(S "cells", .lst (cs.map .int)), (S "spot", .int (15 : Nat))]) (opt (frd (mdS cs 15 12) 1 9 (.loc 1)) fun d => d = planV (planD cs) ∧ [feedC cs 15] = [feedC cs 15])
      rw [plks_feed, frd_plan]
      exact ⟨rfl, rfl⟩) fun X q => by kernel_rfl
end
def atomsI (v : Int) : List Int := [0, 1, 2, 3].filter fun a => Builtin.bitAnd (v.fdiv (2 ^ a.toNat)) 1 == 1
theorem atoms_ok (v : Int) : (atomsI v).length ≤ 4 ∧ (atomsI v).Nodup := ⟨List.length_filter_le .., List.Pairwise.filter _ (by decide)⟩
section
variable {τ : List Cell} {x y a : Cell} {r : List Cell}
theorem get_mid : (τ ++ x :: r)[τ.length]? = some x := by
  rw [List.getElem?_append_right (Nat.le_refl _), Nat.sub_self]
  rfl
theorem get_mid2 (i : Nat) : (τ ++ x :: r)[τ.length + (i + 1)]? = r[i]? := by
  rw [List.getElem?_append_right (Nat.le_add_right ..), Nat.add_sub_cancel_left]
  rfl
theorem set_mid : (τ ++ x :: r).set τ.length y = τ ++ y :: r := by
  rw [List.set_append_right _ _ (Nat.le_refl _), Nat.sub_self]
  rfl
theorem app_mid {lk : List Nat} {xs : List V} (d : V) (a : Cell) (τ r : List Cell) (l : xs.length ≤ 50000) (hl : memN (τ.length + 1) lk = false) : evMeth lk .append (.loc (τ.length + 1)) [d] (a :: (τ ++ .list xs :: r)) = some (.none, a :: (τ ++ .list (xs ++ [d]) :: r)) := by
  show cond (memN (τ.length + 1) lk) none ((lcell (a :: (τ ++ Cell.list xs :: r)) (τ.length + 1)).bind _) = _
  rw [hl]
  show (((τ ++ Cell.list xs :: r)[τ.length]?).bind _).bind _ = _
  rw [get_mid]
  show cond (Nat.ble xs.length 50000) (some (V.none, a :: (τ ++ Cell.list xs :: r).set τ.length (Cell.list (xs ++ [d])))) none = _
  rw [Nat.ble_eq_true_of_le l, set_mid]
  rfl
theorem ty_mid (xs : List V) (a : Cell) (τ r : List Cell) : some (tyOk (a :: (τ ++ .list xs :: r)) (.loc (τ.length + 1)) .append) = some true := by
  show some (!false && (((τ ++ Cell.list xs :: r)[τ.length]?).bind _).isSome) = _
  rw [get_mid]
  rfl
theorem lk_out {j n : Nat} (h : n ≤ j) : memN j ((List.range n).filter (· != 0)) = false := by
  unfold memN
  rw [nbeq_inst]
  exact Bool.eq_false_iff.mpr fun q => Nat.not_lt.mpr h (List.mem_range.mp (List.mem_filter.mp (List.elem_iff.mp q)).1)
theorem lk_0 {n : Nat} : ∀ i ∈ (List.range n).filter (· != 0), i ≠ 0 := fun i m e => absurd (List.mem_filter.mp m).2 (by rw [e]; exact Bool.false_ne_true)
end
abbrev shr (v a : Int) : Int := v.fdiv (2 ^ a.toNat)
theorem shr_of {v a : Int} (s : List Cell) (h : 0 ≤ a) : evBop .RShift (.int v) (.int a) s = some (.int (shr v a)) := grd_of (decide_eq_true h)
section
variable {C : Cx} {cs : List Int} {k k' : Nat} {τ s : List Cell} {p : Plan}
theorem dob2 (C : Cx) (hc : cs.length ≤ 1000) (k w n : Nat) (τ : List Cell) (hk : k ≤ 10000) (hw : 0 < w) {E : Prop} (e : E) : Con C tab 20 f__law_draw [.loc 0, .int w] (feedC cs k :: τ) (.int (drn cs k w)) (feedC cs (k + 1) :: τ) ∧ (Keep ((List.range n).filter (· != 0)) (feedC cs k :: τ) (feedC cs (k + 1) :: τ) ∧ E) := ⟨draw_ok hc hk hw, keep_0 _ lk_0 _ _, e⟩
abbrev inB : List Stmt := f__law_instance.body
abbrev inN : Nk := f__law_instance.sc.names
abbrev iSt (cs : List Int) (k : Nat) (τ : List Cell) (fnd : List V) (R : List Cell) : List Cell := feedC cs k :: (τ ++ .list fnd :: R)
abbrev inM (τ : List Cell) (p : Plan) : M := [(S "found", .loc (τ.length + 1)), (S "feed", .loc 0), (S "plan", planV p)]
abbrev inK (τ : List Cell) : List Nat := (List.range (τ.length + 1)).filter (· != 0)
abbrev inA : Cmp := cmA (argA 0 (valA (stA (thenA (stA inB 1)) 1)))
theorem in_at {lk : List Nat} (C : Cx) (v : Int) (s : List Cell) : TurnsP (ev C tab 93) lk inA.sc.names inA.elt inA.tgt inA.ifs ([0, 1, 2, 3].map V.int) [(S "mask", .int v)] s ((at1 (atomsI v)).map rowV) :=
  (List.map_map ..).symm ▸ comp_filC (y := S "a") inA V.int (fun a => rowV [a]) (fun a => Builtin.bitAnd (shr v a) 1 == 1) (by kernel_rfl : inA.ifs = [inA.ifs.headD noE]) (by kernel_rfl) (by kernel_rfl) (by kernel_rfl) (by decide) (fun _ _ _ => by kernel_rfl) fun a m => test_of (q := [.v 717057 (.int (shr v a))]) (fun _ e => ob (shr_of (v := v) (a := a) s ((by decide : ∀ a ∈ [0, 1, 2, 3], (0 : Int) ≤ a) a m)) e) fun k => by kernel_rfl
abbrev atV (as : List Int) : V := relV (at1 as)
inductive In1 (cs : List Int) (τ : List Cell) (p : Plan) (K : Nat) (xs : List String) (m : M) (s : List Cell) : Prop
  | mk (k' : Nat) (As : List (List Int)) (es : s = iSt cs k' τ (As.map atV) []) (hk : k' + xs.length ≤ K) (ln : As.length + xs.length = p.names.length) (ok : ∀ as ∈ As, as.length ≤ 4 ∧ as.Nodup) (hm : (As = [] ∧ m = inM τ p) ∨ ∃ w v, m = (S "mask", w) :: (S "name", v) :: inM τ p)
theorem as_len {n m K : Nat} (h : n + m = K) (l : K ≤ 50000) : n ≤ 50000 := Nat.le_trans (Nat.le_trans (Nat.le_add_right n m) (Nat.le_of_eq h)) l
theorem nms_len (p : Plan) : p.names.length ≤ 50000 := Nat.le_trans (Nat.le_trans (Nat.le_trans (Nat.le_add_right ..) (Nat.le_of_eq List.length_append.symm)) (nm_len p)) (by decide)
theorem in_for1 {K : Nat} (hc : cs.length ≤ 1000) (hK : K ≤ 9000) (hk : k + p.names.length ≤ K) : ∃ m' s', In1 cs τ p K [] m' s' ∧ ForP (ev C tab 98) (inK τ) inN (tgA (stA inB 1)) (thenA (stA inB 1)) (strsV p.names) (inM τ p) (iSt cs k τ [] []) .next m' s' := by
  obtain ⟨f, m', s', ⟨rfl, i⟩, t⟩ := for_ex (r := ev C tab 98) (lk := inK τ) (nk := inN) (body := thenA (stA inB 1)) (y := S "name") (p := (tgA (stA inB 1)).pos) (g := sv) (I := In1 cs τ p K) (E := fun f m s => f = .next ∧ In1 cs τ p K [] m s) (by kernel_rfl) (fun m s i => ⟨rfl, i⟩) (fun x xs m s i => by
    obtain ⟨k', As, rfl, hk, ln, ok, hm⟩ := i
    have l : k' ≤ 10000 := Nat.le_trans (Nat.le_trans (Nat.le_add_right ..) hk) (Nat.le_trans hK (by decide))
    have la : (As.map atV).length ≤ 50000 := Nat.le_trans (Nat.le_of_eq (List.length_map _)) (as_len ln (nms_len p))
    refine ⟨.next, (S "mask", .int (drn cs k' 16)) :: (S "name", sv x) :: inM τ p, iSt cs (k' + 1) τ (As.map atV ++ [atV (atomsI (drn cs k' 16))]) [], ?_, ⟨k' + 1, As ++ [atomsI (drn cs k' 16)], congrArg (fun l => iSt cs (k' + 1) τ l []) (List.map_append (f := atV) (l₁ := As) (l₂ := [atomsI (drn cs k' 16)])).symm, ?_, ?_, ?_, .inr ⟨_, _, rfl⟩⟩⟩
    · have o := fun E (e : E) => dob2 C hc k' 16 (τ.length + 1) (τ ++ [.list (As.map atV)]) l (by decide) (ob (ty_mid (As.map atV) (feedC cs (k' + 1)) τ []) (ob (in_at (lk := inK τ) C (drn cs k' 16) (iSt cs (k' + 1) τ (As.map atV) [])) (ob (app_mid (lk := inK τ) (atV (atomsI (drn cs k' 16))) (feedC cs (k' + 1)) τ [] la (lk_out (Nat.le_refl _))) e)))
      rcases hm with ⟨_, rfl⟩ | ⟨w, v, rfl⟩
      · exact body_of (q := [.d 716034 20 (.int (drn cs k' 16)) (iSt cs (k' + 1) τ (As.map atV) []), .t 717068 true, .l 717067 ((at1 (atomsI (drn cs k' 16))).map rowV), .w 717068 .none (iSt cs (k' + 1) τ (As.map atV ++ [atV (atomsI (drn cs k' 16))]) [])]) o fun k => by kernel_rfl
      · exact body_of (q := [.d 716034 20 (.int (drn cs k' 16)) (iSt cs (k' + 1) τ (As.map atV) []), .t 717068 true, .l 717067 ((at1 (atomsI (drn cs k' 16))).map rowV), .w 717068 .none (iSt cs (k' + 1) τ (As.map atV ++ [atV (atomsI (drn cs k' 16))]) [])]) o fun k => by kernel_rfl
    · exact Nat.le_trans (Nat.le_of_eq (Nat.add_right_comm ..)) hk
    · rw [List.length_append]
      exact (Nat.add_right_comm ..).trans ln
    · exact fun as m => (List.mem_append.mp m).elim (ok as) fun m => List.mem_singleton.mp m ▸ atoms_ok _) p.names ⟨k, [], rfl, hk, Nat.zero_add _, fun _ m => absurd m List.not_mem_nil, .inl ⟨rfl, rfl⟩⟩
  exact ⟨m', s', i, t []⟩
end
theorem body_x {C : Cx} {n j : Nat} {lk : List Nat} {nk : Nk} {body rest : List Stmt} {m m' mf : M} {σ σ' sf : List Cell} {f : Fl} {q1 : Qu → Qu} {P : Prop → Prop} (t : To2 (Seg (ev C tab n) lk nk j rest m' σ') f mf sf) (p : ∀ E, E → P E)
    (e : ∀ X k q, evX tab ⟨(ev C tab n).e, (ev C tab n).l, (ev C tab n).b, X⟩ lk nk body (q1 q) m σ k = P (X lk nk rest (.m j :: q) m' σ' k)) : To2 (fun q => (ev C tab (n + 1)).x lk nk body q m σ) f mf sf := fun k hk => (t k hk).elim fun q h => ⟨q1 q, (e (ev C tab n).x k q).mpr (p _ h)⟩
def addRow (rows : Rel) (r : List Int) : Rel := cond (rows.contains r) rows (rows ++ [r])
section
variable {C : Cx} {cs : List Int} {k n : Nat} {τ T U s : List Cell} {p : Plan} {rows : Rel} {r : List Int} {x u v w : V}
abbrev lkN (n : Nat) : List Nat := (List.range n).filter (· != 0)
abbrev inM1 (w u : V) (τ : List Cell) (p : Plan) : M := (S "mask", w) :: (S "name", u) :: inM τ p
abbrev inFB : List Stmt := thenA (stA inB 2)
abbrev inLF : Stmt := stA inFB 1
abbrev inLB : List Stmt := thenA inLF
abbrev inG (T : List Cell) (x r v : V) (m : M) : M := (S "row", r) :: (S "lap", v) :: (S "rows", .loc (T.length + 1)) :: (S "field", x) :: m
abbrev inF1 (T : List Cell) (x : V) (m : M) : M := (S "rows", .loc (T.length + 1)) :: (S "field", x) :: m
abbrev inF2 (T : List Cell) (x r v : V) (m : M) : M := (S "rows", .loc (T.length + 1)) :: (S "field", x) :: (S "row", r) :: (S "lap", v) :: m
theorem notin_mid (a : Cell) (T : List Cell) {b : Bool} (h : rows.contains r = b) : evCop .NotIn (rowV r) (.loc (T.length + 1)) (a :: (T ++ [.list (rows.map rowV)])) = some (!b) := by
  show Option.map (!·) ((((T ++ [Cell.list (rows.map rowV)])[T.length]?).bind _).bind _) = _
  rw [get_mid]
  show Option.map (!·) (grd (V.pls 40 (rows.map rowV) && (rowV r).pl 40) _) = _
  rw [pls_rows, pl_row]
  exact congrArg (fun b => some (!b)) ((any_rows r rows).trans h)
theorem in_if (hn : n ≤ T.length + 1) (l : rows.length ≤ 50000) : To2 (Seg (ev C tab 94) (lkN n) inN 722032 (inLB.drop 1) (inG T x (rowV r) v (inM1 w u τ p)) (feedC cs k :: (T ++ [.list (rows.map rowV)]))) .next (inG T x (rowV r) v (inM1 w u τ p)) (feedC cs k :: (T ++ [.list ((addRow rows r).map rowV)])) := by
  unfold addRow
  cases h : rows.contains r with
  | true => exact seg_of (q := [.b 722030 false]) (fun _ e => ob (notin_mid (feedC cs k) T h) e) fun k => by kernel_rfl
  | false =>
    rw [show (cond false rows (rows ++ [r])).map rowV = rows.map rowV ++ [rowV r] from List.map_append]
    exact seg_of (q := [.b 722030 true, .t 723032 true, .w 723032 .none (feedC cs k :: (T ++ [.list (rows.map rowV ++ [rowV r])]))]) (fun _ e => ob (notin_mid (feedC cs k) T h) (ob (ty_mid (rows.map rowV) (feedC cs k) T []) (ob (app_mid (lk := lkN n) (rowV r) (feedC cs k) T [] (Nat.le_trans (Nat.le_of_eq (List.length_map rowV)) l) (lk_out hn)) e))) fun k => by kernel_rfl
abbrev newRow (cs : List Int) (k : Nat) (b : Bool) : List Int := cond b [(drn cs k 4 : Int), (drn cs (k + 1) 4 : Int), (drn cs (k + 1 + 1) 4 : Int)] [(drn cs k 4 : Int), (drn cs (k + 1) 4 : Int)]
abbrev newK (k : Nat) (b : Bool) : Nat := cond b (k + 1 + 1 + 1) (k + 1 + 1)
inductive InX (T : List Cell) (x v : V) (m1 : M) : M → Prop
  | a : InX T x v m1 ((S "lap", v) :: inF1 T x m1)
  | b (r : V) : InX T x v m1 ((S "lap", v) :: (S "rows", .loc (T.length + 1)) :: (S "field", x) :: (S "row", r) :: m1)
  | c (r : V) : InX T x v m1 ((S "lap", v) :: (S "row", r) :: (S "rows", .loc (T.length + 1)) :: (S "field", x) :: m1)
theorem in_lap {m : M} (hc : cs.length ≤ 1000) (hk : k + 3 ≤ 10000) (hn : n ≤ T.length + 1) (l : rows.length ≤ 50000) (hm : InX T x v (inM1 w u τ p) m) : To2 (fun q => (ev C tab 95).x (lkN n) inN inLB q m (feedC cs k :: (T ++ [.list (rows.map rowV)]))) .next (inG T x (rowV (newRow cs k ((p.kind : Int) == 3))) v (inM1 w u τ p)) (feedC cs (newK k ((p.kind : Int) == 3)) :: (T ++ [.list ((addRow rows (newRow cs k ((p.kind : Int) == 3))).map rowV)])) := by
  generalize hU : T ++ [Cell.list (rows.map rowV)] = U
  cases h : (p.kind : Int) == 3 with
  | true =>
    have t := hU ▸ in_if (C := C) (cs := cs) (k := k + 1 + 1 + 1) (x := x) (v := v) (w := w) (u := u) (τ := τ) (p := p) (r := [(drn cs k 4 : Int), (drn cs (k + 1) 4 : Int), (drn cs (k + 1 + 1) 4 : Int)]) hn l
    have o := fun E (e : E) => ob (congrArg some h) (dob2 C hc k 4 n U (Nat.le_trans (Nat.add_le_add_left (by decide : 0 ≤ 3) k) hk) (by decide) (dob2 C hc (k + 1) 4 n U (Nat.le_trans (Nat.add_le_add_left (by decide : 1 ≤ 3) k) hk) (by decide) (dob2 C hc (k + 1 + 1) 4 n U (Nat.le_trans (Nat.add_le_add_left (by decide : 2 ≤ 3) k) hk) (by decide) e)))
    cases hm with
    | a => exact body_x t (q1 := fun q => .b 721081 true :: .d 721043 20 (.int (drn cs k 4)) (feedC cs (k + 1) :: U) :: .d 721043 20 (.int (drn cs (k + 1) 4)) (feedC cs (k + 1 + 1) :: U) :: .d 721043 20 (.int (drn cs (k + 1 + 1) 4)) (feedC cs (k + 1 + 1 + 1) :: U) :: .m 722032 :: q) o fun X k q => by kernel_rfl
    | b r => exact body_x t (q1 := fun q => .b 721081 true :: .d 721043 20 (.int (drn cs k 4)) (feedC cs (k + 1) :: U) :: .d 721043 20 (.int (drn cs (k + 1) 4)) (feedC cs (k + 1 + 1) :: U) :: .d 721043 20 (.int (drn cs (k + 1 + 1) 4)) (feedC cs (k + 1 + 1 + 1) :: U) :: .m 722032 :: q) o fun X k q => by kernel_rfl
    | c r => exact body_x t (q1 := fun q => .b 721081 true :: .d 721043 20 (.int (drn cs k 4)) (feedC cs (k + 1) :: U) :: .d 721043 20 (.int (drn cs (k + 1) 4)) (feedC cs (k + 1 + 1) :: U) :: .d 721043 20 (.int (drn cs (k + 1 + 1) 4)) (feedC cs (k + 1 + 1 + 1) :: U) :: .m 722032 :: q) o fun X k q => by kernel_rfl
  | false =>
    have t := hU ▸ in_if (C := C) (cs := cs) (k := k + 1 + 1) (x := x) (v := v) (w := w) (u := u) (τ := τ) (p := p) (r := [(drn cs k 4 : Int), (drn cs (k + 1) 4 : Int)]) hn l
    have o := fun E (e : E) => ob (congrArg some h) (dob2 C hc k 4 n U (Nat.le_trans (Nat.add_le_add_left (by decide : 0 ≤ 3) k) hk) (by decide) (dob2 C hc (k + 1) 4 n U (Nat.le_trans (Nat.add_le_add_left (by decide : 1 ≤ 3) k) hk) (by decide) e))
    cases hm with
    | a => exact body_x t (q1 := fun q => .b 721081 false :: .d 721043 20 (.int (drn cs k 4)) (feedC cs (k + 1) :: U) :: .d 721043 20 (.int (drn cs (k + 1) 4)) (feedC cs (k + 1 + 1) :: U) :: .m 722032 :: q) o fun X k q => by kernel_rfl
    | b r => exact body_x t (q1 := fun q => .b 721081 false :: .d 721043 20 (.int (drn cs k 4)) (feedC cs (k + 1) :: U) :: .d 721043 20 (.int (drn cs (k + 1) 4)) (feedC cs (k + 1 + 1) :: U) :: .m 722032 :: q) o fun X k q => by kernel_rfl
    | c r => exact body_x t (q1 := fun q => .b 721081 false :: .d 721043 20 (.int (drn cs k 4)) (feedC cs (k + 1) :: U) :: .d 721043 20 (.int (drn cs (k + 1) 4)) (feedC cs (k + 1 + 1) :: U) :: .m 722032 :: q) o fun X k q => by kernel_rfl
end
abbrev RowsOk (b : Bool) (rows : Rel) : Prop := rows.Nodup ∧ ∀ r ∈ rows, r.length = cond b 3 2
theorem addRow_ok {b : Bool} {rows : Rel} {r : List Int} (h : RowsOk b rows) (hr : r.length = cond b 3 2) : RowsOk b (addRow rows r) ∧ (addRow rows r).length ≤ rows.length + 1 := by
  unfold addRow
  cases q : rows.contains r with
  | true => exact ⟨h, Nat.le_succ _⟩
  | false => exact ⟨⟨List.nodup_append.mpr ⟨h.1, List.pairwise_singleton .., fun x hx y hy e => nc_iff.mp q (List.mem_singleton.mp hy ▸ e ▸ hx)⟩, fun s m => (List.mem_append.mp m).elim (h.2 s) fun m => List.mem_singleton.mp m ▸ hr⟩, Nat.le_of_eq List.length_append⟩
theorem newRow_len {cs : List Int} {k : Nat} (b : Bool) : (newRow cs k b).length = cond b 3 2 := by cases b <;> rfl
theorem newK_le (k : Nat) (b : Bool) : newK k b ≤ k + 3 := by
  cases b with
  | true => exact Nat.le_refl _
  | false => exact Nat.le_succ _
section
variable {C : Cx} {cs : List Int} {k n K d : Nat} {τ T U s : List Cell} {p : Plan} {rows : Rel} {r : List Int} {x u v w : V} {m S0 : M}
inductive In0 (T : List Cell) (x : V) (m1 : M) : M → Prop
  | a : In0 T x m1 (inF1 T x m1)
  | b (r v : V) : In0 T x m1 (inF2 T x r v m1)
inductive In3 (cs : List Int) (T : List Cell) (x : V) (m1 S0 : M) (b : Bool) (K : Nat) (xs : List Nat) (m : M) (s : List Cell) : Prop
  | mk (k' : Nat) (rows : Rel) (es : s = feedC cs k' :: (T ++ [.list (rows.map rowV)])) (hk : k' + 3 * xs.length ≤ K) (ln : rows.length + xs.length ≤ 3) (ok : RowsOk b rows) (hm : m = S0 ∨ ∃ r v, m = inG T x r v m1)
theorem in_laps (hc : cs.length ≤ 1000) (hn : n ≤ T.length + 1) (hK : K ≤ 9000) (hk : k + 9 ≤ K) (hd : d < 4) (h0 : In0 T x (inM1 w u τ p) S0) : ∃ m' s', In3 cs T x (inM1 w u τ p) S0 ((p.kind : Int) == 3) K [] m' s' ∧ ForP (ev C tab 95) (lkN n) inN (tgA inLF) inLB (upTo d) S0 (feedC cs k :: (T ++ [.list []])) .next m' s' := by
  obtain ⟨f, m', s', ⟨rfl, i⟩, t⟩ := for_ex (r := ev C tab 95) (lk := lkN n) (nk := inN) (body := inLB) (y := S "lap") (p := (tgA inLF).pos) (g := fun i : Nat => V.int i) (I := In3 cs T x (inM1 w u τ p) S0 ((p.kind : Int) == 3) K) (E := fun f m s => f = .next ∧ In3 cs T x (inM1 w u τ p) S0 ((p.kind : Int) == 3) K [] m s) (by kernel_rfl) (fun m s i => ⟨rfl, i⟩) (fun i xs m s I => by
    obtain ⟨k', rows, rfl, hk, ln, ok, hm⟩ := I
    have hx : InX T x (.int i) (inM1 w u τ p) ((S "lap", .int i) :: rm (S "lap") m) := by
      rcases hm with rfl | ⟨r, v, rfl⟩
      · cases h0 with
        | a => exact (by kernel_rfl : rm (S "lap") (inF1 T x (inM1 w u τ p)) = inF1 T x (inM1 w u τ p)) ▸ .a
        | b r v => exact (by kernel_rfl : rm (S "lap") (inF2 T x r v (inM1 w u τ p)) = (S "rows", .loc (T.length + 1)) :: (S "field", x) :: (S "row", r) :: inM1 w u τ p) ▸ .b r
      · exact (by kernel_rfl : rm (S "lap") (inG T x r v (inM1 w u τ p)) = (S "row", r) :: (S "rows", .loc (T.length + 1)) :: (S "field", x) :: inM1 w u τ p) ▸ .c r
    have k3 : k' + 3 + 3 * xs.length ≤ K := Nat.le_trans (Nat.le_of_eq ((Nat.add_assoc k' 3 (3 * xs.length)).trans (congrArg (k' + ·) (Nat.add_comm 3 (3 * xs.length))))) hk
    have a := addRow_ok (r := newRow cs k' ((p.kind : Int) == 3)) ok (newRow_len _)
    exact ⟨.next, _, _, in_lap hc (Nat.le_trans (Nat.le_trans (Nat.le_add_right ..) k3) (Nat.le_trans hK (by decide))) hn (Nat.le_trans (Nat.le_trans (Nat.le_add_right ..) ln) (by decide)) hx, ⟨_, _, rfl, Nat.le_trans (Nat.add_le_add_right (newK_le ..) _) k3, Nat.le_trans (Nat.add_le_add_right a.2 _) (Nat.le_trans (Nat.le_of_eq (Nat.add_right_comm ..)) ln), a.1, .inr ⟨_, _, rfl⟩⟩⟩) (List.range d) ⟨k, [], rfl, Nat.le_trans (Nat.add_le_add_left (Nat.mul_le_mul_left 3 (Nat.le_trans (Nat.le_of_eq List.length_range) (Nat.le_of_lt_succ hd))) k) hk, Nat.le_trans (Nat.le_of_eq ((Nat.zero_add _).trans List.length_range)) (Nat.le_of_lt_succ hd), ⟨.nil, fun _ m => absurd m List.not_mem_nil⟩, .inl rfl⟩
  exact ⟨m', s', i, t []⟩
inductive InY (T : List Cell) (x : V) (m1 : M) : M → M → Prop
  | a : InY T x m1 ((S "field", x) :: m1) (inF1 T x m1)
  | b (l : V) : InY T x m1 ((S "field", x) :: (S "rows", l) :: m1) (inF1 T x m1)
  | c (l r v : V) : InY T x m1 ((S "field", x) :: (S "row", r) :: (S "lap", v) :: (S "rows", l) :: m1) (inF2 T x r v m1)
  | d (l r v : V) : InY T x m1 ((S "field", x) :: (S "rows", l) :: (S "row", r) :: (S "lap", v) :: m1) (inF2 T x r v m1)
inductive InZ (m1 : M) : M → Prop
  | a : InZ m1 m1
  | b (l y : V) : InZ m1 ((S "rows", l) :: (S "field", y) :: m1)
  | c (l y r v : V) : InZ m1 ((S "row", r) :: (S "lap", v) :: (S "rows", l) :: (S "field", y) :: m1)
  | d (l y r v : V) : InZ m1 ((S "rows", l) :: (S "field", y) :: (S "row", r) :: (S "lap", v) :: m1)
theorem InY.eq {m m' m1 : M} (h : InY T x m1 ((S "field", x) :: m) S0) (e : m' = m) : InY T x m1 ((S "field", x) :: m') S0 := e ▸ h
theorem InZ.turn (h : InZ (inM1 w u τ p) m) (T : List Cell) (x : V) : ∃ S0, InY T x (inM1 w u τ p) ((S "field", x) :: rm (S "field") m) S0 := by
  cases h with
  | a => exact ⟨_, InY.a.eq (by kernel_rfl)⟩
  | b l y => exact ⟨_, (InY.b l).eq (by kernel_rfl)⟩
  | c l y r v => exact ⟨_, (InY.c l r v).eq (by kernel_rfl)⟩
  | d l y r v => exact ⟨_, (InY.d l r v).eq (by kernel_rfl)⟩
end
section
variable {C : Cx} {cs : List Int} {k n K d : Nat} {τ T U s R : List Cell} {p : Plan} {rows : Rel} {r : List Int} {x u v w : V} {m S0 : M} {fnd : List V}
theorem range_of {d : Nat} (h : d ≤ 1000000) : rangeOf [.int d] = some (upTo d) := grd_of (Nat.ble_eq_true_of_le h)
abbrev fT (τ : List Cell) (fnd : List V) (R : List Cell) : List Cell := τ ++ .list fnd :: R
theorem in_app {m' : M} (hn : n ≤ τ.length + 1) (l : fnd.length ≤ 50000) (hm : m' = inF1 (fT τ fnd R) x (inM1 w u τ p) ∨ (∃ r v, m' = inF2 (fT τ fnd R) x r v (inM1 w u τ p)) ∨ ∃ r v, m' = inG (fT τ fnd R) x r v (inM1 w u τ p)) (c : Cell) : To2 (Seg (ev C tab 95) (lkN n) inN 724026 (inFB.drop 2) m' (feedC cs k :: (fT τ fnd R ++ [c]))) .next m' (iSt cs k τ (fnd ++ [.loc ((fT τ fnd R).length + 1)]) (R ++ [c])) := by
  have e : fT τ fnd R ++ [c] = τ ++ .list fnd :: (R ++ [c]) := List.append_assoc τ (.list fnd :: R) [c]
  have o := fun E (e : E) => ob (ty_mid fnd (feedC cs k) τ (R ++ [c])) (ob (app_mid (lk := lkN n) (.loc ((fT τ fnd R).length + 1)) (feedC cs k) τ (R ++ [c]) l (lk_out hn)) e)
  rw [e]
  rcases hm with rfl | ⟨r, v, rfl⟩ | ⟨r, v, rfl⟩
  · exact seg_of (q := [.t 724026 true, .w 724026 .none (iSt cs k τ (fnd ++ [.loc ((fT τ fnd R).length + 1)]) (R ++ [c]))]) o fun k => by kernel_rfl
  · exact seg_of (q := [.t 724026 true, .w 724026 .none (iSt cs k τ (fnd ++ [.loc ((fT τ fnd R).length + 1)]) (R ++ [c]))]) o fun k => by kernel_rfl
  · exact seg_of (q := [.t 724026 true, .w 724026 .none (iSt cs k τ (fnd ++ [.loc ((fT τ fnd R).length + 1)]) (R ++ [c]))]) o fun k => by kernel_rfl
theorem In0.z {m : M} (h : In0 T x (inM1 w u τ p) m) : (m = inF1 T x (inM1 w u τ p) ∨ (∃ r v, m = inF2 T x r v (inM1 w u τ p)) ∨ ∃ r v, m = inG T x r v (inM1 w u τ p)) := by
  cases h with
  | a => exact .inl rfl
  | b r v => exact .inr (.inl ⟨r, v, rfl⟩)
theorem iz_of {m : M} (h : m = inF1 T x (inM1 w u τ p) ∨ (∃ r v, m = inF2 T x r v (inM1 w u τ p)) ∨ ∃ r v, m = inG T x r v (inM1 w u τ p)) : InZ (inM1 w u τ p) m := by
  rcases h with rfl | ⟨r, v, rfl⟩ | ⟨r, v, rfl⟩
  · exact .b _ _
  · exact .d _ _ _ _
  · exact .c _ _ _ _
theorem in_fB {m' : M} {s' : List Cell} (hm : InY T x (inM1 w u τ p) m S0) (b : To2 (Seg (ev C tab 96) (lkN n) inN 720032 (inFB.drop 1) S0 (feedC cs k :: (T ++ [.list []]))) .next m' s') : To2 (fun q => (ev C tab 97).x (lkN n) inN inFB q m (feedC cs k :: T)) .next m' s' := by
  cases hm with
  | a => exact body_x b (q1 := fun q => .m 720032 :: q) (fun _ e => e) fun X k q => by kernel_rfl
  | b l => exact body_x b (q1 := fun q => .m 720032 :: q) (fun _ e => e) fun X k q => by kernel_rfl
  | c l r v => exact body_x b (q1 := fun q => .m 720032 :: q) (fun _ e => e) fun X k q => by kernel_rfl
  | d l r v => exact body_x b (q1 := fun q => .m 720032 :: q) (fun _ e => e) fun X k q => by kernel_rfl
theorem in_fL {m' m'' : M} {s' s'' : List Cell} (hc : cs.length ≤ 1000) (hk : k ≤ 10000) (h0 : In0 T x (inM1 w u τ p) S0) (t : ForP (ev C tab 95) (lkN n) inN (tgA inLF) inLB (upTo (drn cs k 4)) S0 (feedC cs (k + 1) :: (T ++ [.list []])) .next m' s') (a : To2 (Seg (ev C tab 95) (lkN n) inN 724026 (inFB.drop 2) m' s') .next m'' s'') : To2 (Seg (ev C tab 96) (lkN n) inN 720032 (inFB.drop 1) S0 (feedC cs k :: (T ++ [.list []]))) .next m'' s'' := by
  have o := fun E (e : E) => dob2 C hc k 4 n (T ++ [.list []]) hk (by decide) (ob (range_of (Nat.le_of_lt (Nat.lt_trans (drn_lt cs k (w := 4) (by decide)) (by decide)))) (ob t e))
  cases h0 with
  | a => exact seg_seq a (q1 := fun q => .d 720043 20 (.int (drn cs k 4)) (feedC cs (k + 1) :: (T ++ [.list []])) :: .l 720044 (upTo (drn cs k 4)) :: .f 720032 .next m' s' :: .m 724026 :: q) o fun k q => by kernel_rfl
  | b r v => exact seg_seq a (q1 := fun q => .d 720043 20 (.int (drn cs k 4)) (feedC cs (k + 1) :: (T ++ [.list []])) :: .l 720044 (upTo (drn cs k 4)) :: .f 720032 .next m' s' :: .m 724026 :: q) o fun k q => by kernel_rfl
theorem InY.z (hm : InY T x (inM1 w u τ p) m S0) : In0 T x (inM1 w u τ p) S0 := by
  cases hm with
  | a => exact .a
  | b l => exact .a
  | c l r v => exact .b r v
  | d l r v => exact .b r v
theorem in_field (hc : cs.length ≤ 1000) (hK : K ≤ 9000) (hk : k + 10 ≤ K) (hn : n ≤ τ.length + 1) (l : fnd.length ≤ 50000) (hm : InY (fT τ fnd R) x (inM1 w u τ p) m S0) : ∃ m' k' rows, InZ (inM1 w u τ p) m' ∧ k' ≤ k + 10 ∧ RowsOk ((p.kind : Int) == 3) rows ∧ rows.length ≤ 3 ∧ To2 (fun q => (ev C tab 97).x (lkN n) inN inFB q m (iSt cs k τ fnd R)) .next m' (iSt cs k' τ (fnd ++ [.loc ((fT τ fnd R).length + 1)]) (R ++ [.list (rows.map rowV)])) := by
  have lT : n ≤ (fT τ fnd R).length + 1 := Nat.le_trans hn (Nat.succ_le_succ (Nat.le_trans (Nat.le_add_right ..) (Nat.le_of_eq List.length_append.symm)))
  obtain ⟨m', s', I, t⟩ := in_laps (C := C) (n := n) (k := k + 1) (K := k + 10) (w := w) (u := u) (p := p) (τ := τ) hc lT (Nat.le_trans hk hK) (Nat.le_of_eq (Nat.add_assoc k 1 9)) (drn_lt cs k (w := 4) (by decide)) hm.z
  obtain ⟨k', rows, rfl, hk', ln, ok, hm'⟩ := I
  have hz := hm'.elim (fun e => e ▸ hm.z.z) fun h => .inr (.inr h)
  exact ⟨m', k', rows, iz_of hz, hk', ok, ln, in_fB hm (in_fL hc (Nat.le_trans (Nat.le_trans (Nat.le_add_right ..) hk) (Nat.le_trans hK (by decide))) hm.z t (in_app (C := C) (cs := cs) (k := k') (n := n) hn l hz (.list (rows.map rowV))))⟩
end
def locs (τ : List Cell) (n : Nat) : List V := (List.range n).map fun i => .loc (τ.length + (i + 2))
abbrev cellR (rows : Rel) : Cell := .list (rows.map rowV)
section
variable {C : Cx} {cs : List Int} {k n K d : Nat} {τ T U s R : List Cell} {p : Plan} {rows : Rel} {r : List Int} {x u v w : V} {m S0 : M} {fnd base : List V}
inductive In2 (cs : List Int) (τ : List Cell) (p : Plan) (base : List V) (m1 : M) (K : Nat) (xs : List String) (m : M) (s : List Cell) : Prop
  | mk (k' : Nat) (Rs : List Rel) (es : s = iSt cs k' τ (base ++ locs τ Rs.length) (Rs.map cellR)) (hk : k' + 10 * xs.length ≤ K) (ln : Rs.length + xs.length = p.fields.length) (ok : ∀ R ∈ Rs, RowsOk ((p.kind : Int) == 3) R ∧ R.length ≤ 3) (hm : InZ m1 m)
theorem locs_next (τ : List Cell) (fnd : List V) (Rs : List Rel) : locs τ Rs.length ++ [.loc ((fT τ fnd (Rs.map cellR)).length + 1)] = locs τ (Rs.length + 1) := by
  unfold locs
  rw [List.range_succ, List.map_append, List.length_append, List.length_cons, List.length_map]
  rfl
theorem flds_len (p : Plan) : 1 ≤ p.fields.length ∧ p.fields.length ≤ 2 := by unfold Plan.fields; split <;> decide
theorem in_for2 (hc : cs.length ≤ 1000) (hK : K ≤ 9000) (hk : k + 10 * p.fields.length ≤ K) (lb : base.length ≤ 1000) : ∃ m' s', In2 cs τ p base (inM1 w u τ p) K [] m' s' ∧ ForP (ev C tab 97) (inK τ) inN (tgA (stA inB 2)) inFB (strsV p.fields) (inM1 w u τ p) (iSt cs k τ base []) .next m' s' := by
  obtain ⟨f, m', s', ⟨rfl, i⟩, t⟩ := for_ex (r := ev C tab 97) (lk := inK τ) (nk := inN) (body := inFB) (y := S "field") (p := (tgA (stA inB 2)).pos) (g := sv) (I := In2 cs τ p base (inM1 w u τ p) K) (E := fun f m s => f = .next ∧ In2 cs τ p base (inM1 w u τ p) K [] m s) (by kernel_rfl) (fun m s i => ⟨rfl, i⟩) (fun x xs m s I => by
    obtain ⟨k', Rs, rfl, hk, ln, ok, hm⟩ := I
    obtain ⟨S0, hy⟩ := hm.turn (fT τ (base ++ locs τ Rs.length) (Rs.map cellR)) (sv x)
    have k3 : k' + 10 + 10 * xs.length ≤ K := Nat.le_trans (Nat.le_of_eq ((Nat.add_assoc k' 10 (10 * xs.length)).trans (congrArg (k' + ·) (Nat.add_comm 10 (10 * xs.length))))) hk
    have lf : (base ++ locs τ Rs.length).length ≤ 50000 := by
      unfold locs
      rw [List.length_append, List.length_map, List.length_range]
      exact Nat.le_trans (Nat.add_le_add lb (Nat.le_trans (Nat.le_trans (Nat.le_add_right ..) (Nat.le_of_eq ln)) (flds_len p).2)) (by decide)
    obtain ⟨m', k2, rows, hz, hk2, hr, lr, t⟩ := in_field (C := C) (n := τ.length + 1) (K := K) hc hK (Nat.le_trans (Nat.le_add_right ..) k3) (Nat.le_refl _) lf hy
    rw [List.append_assoc, locs_next] at t
    refine ⟨.next, m', _, t, ⟨k2, Rs ++ [rows], ?_, Nat.le_trans (Nat.add_le_add_right hk2 _) k3, ?_, fun R m => (List.mem_append.mp m).elim (ok R) fun m => List.mem_singleton.mp m ▸ ⟨hr, lr⟩, hz⟩⟩
    · rw [List.length_append, List.map_append]
      rfl
    · rw [List.length_append]
      exact (Nat.add_right_comm ..).trans ln) p.fields ⟨k, [], congrArg (fun l => iSt cs k τ l []) (List.append_nil base).symm, hk, Nat.zero_add _, fun _ m => absurd m List.not_mem_nil, .a⟩
  exact ⟨m', s', i, t []⟩
theorem frL_map {α : Type} {g : V → Option V} (f h : α → V) {l : List α} : (∀ x ∈ l, g (f x) = some (h x)) → frL g (l.map f) = some (l.map h) := by
  induction l with
  | nil => exact fun _ => rfl
  | cons x l ih =>
    intro H
    show (g (f x)).bind (fun p => (frL g (l.map f)).map (p :: ·)) = _
    rw [H x (.head _), ih fun y m => H y (.tail _ m)]
    rfl
theorem frL_app {g : V → Option V} {a b a' b' : List V} : frL g a = some a' → frL g b = some b' → frL g (a ++ b) = some (a' ++ b') := by
  induction a generalizing a' with
  | nil =>
    intro h1 h2
    rw [← Option.some.inj h1]
    exact h2
  | cons x a ih =>
    intro h1 h2
    obtain ⟨y, e1, h1⟩ := Option.bind_eq_some_iff.mp h1
    obtain ⟨z, e2, h1⟩ := Option.map_eq_some_iff.mp h1
    show (g x).bind (fun p => (frL g (a ++ b)).map (p :: ·)) = _
    rw [e1, ih e2 h2, ← h1]
    rfl
theorem range_get {α : Type} (l : List α) (d : α) : (List.range l.length).map (fun i => l.getD i d) = l := List.ext_getElem ((List.length_map ..).trans List.length_range) fun i h1 h2 => by
  rw [List.getElem_map, List.getElem_range, List.getD_eq_getElem?_getD, List.getElem?_eq_getElem h2]; rfl
theorem frls {σ : List Cell} {n j : Nat} {l : List V} (h : V.pls 30 l = true) : frd σ n (j + 1) (.lst l) = some (.lst l) := congrArg (fun b => (cond b (some l) (frL (frd σ n j) l)).map V.lst) h
theorem blt_no {a b : Nat} (h : b ≤ a) : Nat.blt a b = false := Bool.eq_false_iff.mpr fun z => Nat.not_lt.mpr h (Nat.le_of_ble_eq_true z)
theorem frd_found (As : List (List Int)) (Rs : List Rel) (c : Cell) (τ : List Cell) (h : 1 ≤ Rs.length) : frd (c :: (τ ++ .list (As.map atV ++ locs τ Rs.length) :: Rs.map cellR)) (τ.length + 1) 9 (.loc (τ.length + 1)) = some (.lst (As.map atV ++ Rs.map relV)) := by
  generalize hs : c :: (τ ++ .list (As.map atV ++ locs τ Rs.length) :: Rs.map cellR) = s
  have e0 : s[τ.length + 1]? = some (.list (As.map atV ++ locs τ Rs.length)) := hs ▸ get_mid
  show cond (Nat.blt (τ.length + 1) (τ.length + 1)) _ ((s[τ.length + 1]?).bind _) = _
  rw [blt_no (Nat.le_refl _), e0]
  show (cond (V.pls 30 (As.map atV ++ locs τ Rs.length)) _ (frL (frd s (τ.length + 1) 8) (As.map atV ++ locs τ Rs.length))).map V.lst = _
  rw [show V.pls 30 (As.map atV ++ locs τ Rs.length) = false from List.all_eq_false.mpr ⟨.loc (τ.length + (0 + 2)), List.mem_append_right _ (List.mem_map.mpr ⟨0, List.mem_range.mpr h, rfl⟩), fun h => nomatch h⟩]
  have h2 := frL_app (frL_map (g := frd s (τ.length + 1) 8) atV atV (l := As) fun as _ => frls (pls_rows _)) (frL_map (l := List.range Rs.length) (fun i => V.loc (τ.length + (i + 2))) (fun i => relV (Rs.getD i [])) fun i m => by
    have hi := List.mem_range.mp m
    have e1 : s[τ.length + (i + 2)]? = some (.list ((Rs.getD i []).map rowV)) := hs ▸ ((get_mid2 i).trans ((List.getElem?_map ..).trans (by rw [List.getD_eq_getElem?_getD, List.getElem?_eq_getElem hi]; rfl)))
    show cond (Nat.blt (τ.length + (i + 2)) (τ.length + 1)) _ ((s[τ.length + (i + 2)]?).bind _) = _
    rw [blt_no (Nat.add_le_add_left (Nat.succ_le_succ (Nat.zero_le _)) _), e1]
    exact congrArg (fun b => (cond b (some ((Rs.getD i []).map rowV)) _).map V.lst) (pls_rows _))
  refine (congrArg (Option.map V.lst) h2).trans ?_
  exact congrArg (fun l => some (V.lst (As.map atV ++ l))) ((List.map_map (f := fun i => Rs.getD i []) (g := relV)).symm.trans (congrArg (List.map relV) (range_get Rs [])))
end
theorem ex_map {l : List String} : ∀ {RL : List Rel}, l.Nodup → RL.length = l.length → ∃ γ : String → Rel, l.map γ = RL := by
  induction l with
  | nil => exact fun _ h => ⟨fun _ => [], (List.eq_nil_of_length_eq_zero h).symm⟩
  | cons a l ih =>
    intro RL nd h
    cases RL with
    | nil => exact absurd h (Nat.succ_ne_zero _).symm
    | cons r RL =>
      obtain ⟨γ, e⟩ := ih (List.nodup_cons.mp nd).2 (Nat.succ.inj h)
      refine ⟨fun y => if y = a then r else γ y, ?_⟩
      rw [List.map_cons, if_pos rfl, ← e]
      exact congrArg (r :: ·) (List.map_congr_left fun y hy => if_neg fun q : y = a => (List.nodup_cons.mp nd).1 (q ▸ hy))
section
variable {C : Cx} {cs : List Int} {k n K d : Nat} {τ T U s R : List Cell} {p : Plan} {rows : Rel} {r : List Int} {x u v w : V} {m S0 : M} {fnd base : List V}
theorem in_ret {m : M} (hm : InZ (inM1 w u τ p) m) (lk : List Nat) (s : List Cell) : To2 (Seg (ev C tab 97) lk inN 725016 (inB.drop 3) m s) (.ret (.loc (τ.length + 1))) m s := by
  cases hm with
  | a => exact seg_of (q := []) (fun _ e => e) fun k => by kernel_rfl
  | b l y => exact seg_of (q := []) (fun _ e => e) fun k => by kernel_rfl
  | c l y r v => exact seg_of (q := []) (fun _ e => e) fun k => by kernel_rfl
  | d l y r v => exact seg_of (q := []) (fun _ e => e) fun k => by kernel_rfl
theorem inst_run (hc : cs.length ≤ 1000) (hk : k + 40 ≤ 9000) : ∃ (k' : Nat) (As : List (List Int)) (Rs : List Rel), k' ≤ k + 40 ∧ As.length = p.names.length ∧ (∀ as ∈ As, as.length ≤ 4 ∧ as.Nodup) ∧ Rs.length = p.fields.length ∧ (∀ R ∈ Rs, RowsOk ((p.kind : Int) == 3) R ∧ R.length ≤ 3) ∧ Con C tab 100 f__law_instance [.loc 0, planV p] (feedC cs k :: τ) (.lst (As.map atV ++ Rs.map relV)) (feedC cs k' :: τ) := by
  have nl : p.names.length ≤ 20 := Nat.le_trans (Nat.le_trans (Nat.le_add_right ..) (Nat.le_of_eq List.length_append.symm)) (nm_len p)
  obtain ⟨m1, s1, i1, t1⟩ := in_for1 (C := C) (cs := cs) (k := k) (K := k + 20) (τ := τ) (p := p) hc (Nat.le_trans (Nat.add_le_add_left (by decide) k) hk) (Nat.add_le_add_left nl k)
  obtain ⟨k1, As, rfl, hk1, ln, oka, hm1⟩ := i1
  have hm1 : ∃ w v, m1 = inM1 w v τ p := hm1.elim (fun h => by
    have : 0 = p.names.length := by rw [h.1] at ln; exact ln
    exact absurd this (Nat.ne_of_lt (Nat.zero_lt_succ _))) id
  obtain ⟨w, u, rfl⟩ := hm1
  obtain ⟨m2, s2, i2, t2⟩ := in_for2 (C := C) (cs := cs) (k := k1) (K := k + 40) (τ := τ) (p := p) (w := w) (u := u) (base := As.map atV) hc hk (Nat.le_trans (Nat.add_le_add hk1 (Nat.mul_le_mul_left 10 (flds_len p).2)) (Nat.le_of_eq (Nat.add_assoc k 20 20))) (by rw [List.length_map]; exact Nat.le_trans (Nat.le_trans (Nat.le_of_eq ln) nl) (by decide))
  obtain ⟨k2, Rs, rfl, hk2, lr, okr, hm2⟩ := i2
  refine ⟨k2, As, Rs, hk2, ln, oka, lr, okr, ?_⟩
  have a3 := in_ret (C := C) hm2 (inK τ) (iSt cs k2 τ (As.map atV ++ locs τ Rs.length) (Rs.map cellR))
  have a2 : To2 (Seg (ev C tab 98) (inK τ) inN 718026 (inB.drop 2) (inM1 w u τ p) (iSt cs k1 τ (As.map atV) [])) (.ret (.loc (τ.length + 1))) m2 (iSt cs k2 τ (As.map atV ++ locs τ Rs.length) (Rs.map cellR)) := seg_seq a3 (q1 := fun q => .f 718026 .next m2 (iSt cs k2 τ (As.map atV ++ locs τ Rs.length) (Rs.map cellR)) :: .m 725016 :: q) (fun _ e => ob t2 e) fun k q => by kernel_rfl
  have a1 : To2 (Seg (ev C tab 99) (inK τ) inN 715068 (inB.drop 1) (inM τ p) (iSt cs k τ [] [])) (.ret (.loc (τ.length + 1))) m2 (iSt cs k2 τ (As.map atV ++ locs τ Rs.length) (Rs.map cellR)) := seg_seq a2 (q1 := fun q => .f 715068 .next (inM1 w u τ p) (iSt cs k1 τ (As.map atV) []) :: .m 718026 :: q) (fun _ e => ob t1 e) fun k q => by kernel_rfl
  have a0 : To2 (Seg (ev C tab 100) (inK τ) inN 714014 inB [(S "feed", .loc 0), (S "plan", planV p)] (feedC cs k :: τ)) (.ret (.loc (τ.length + 1))) m2 (iSt cs k2 τ (As.map atV ++ locs τ Rs.length) (Rs.map cellR)) := seg_x a1 (q1 := fun q => .m 715068 :: q) (fun _ e => e) fun X k q => by kernel_rfl
  exact con_x (FinF (τ.length + 1) (feedC cs k :: τ) (.lst (As.map atV ++ Rs.map relV)) (feedC cs k2 :: τ)) a0 (by
    show chk (plks (τ.length + 1) [(S "cells", .lst (cs.map .int)), (S "spot", .int k2)]) (opt (frd (iSt cs k2 τ (As.map atV ++ locs τ Rs.length) (Rs.map cellR)) (τ.length + 1) 9 (.loc (τ.length + 1))) fun d => d = .lst (As.map atV ++ Rs.map relV) ∧ feedC cs k2 :: τ = feedC cs k2 :: τ)
    rw [plks_feed, frd_found As Rs (feedC cs k2) τ (Nat.le_trans (flds_len p).1 (Nat.le_of_eq (id lr).symm))]
    exact ⟨rfl, rfl⟩) fun X q => by kernel_rfl
theorem kind3 {k : Nat} (h : k ≤ 3) : cond ((k : Int) == 3) 3 2 = cond (decide ((k : Int) < 3)) 2 3 := by
  match k, h with
  | 0, _ => rfl
  | 1, _ => rfl
  | 2, _ => rfl
  | 3, _ => rfl
theorem nm_nodup (p : Plan) : p.nm.Nodup := by
  unfold Plan.nm Plan.names Plan.fields Plan.owner
  generalize p.kids = k
  have : kidsL k = [] ∨ kidsL k = ["C"] ∨ kidsL k = ["C", "D"] := by
    match k with
    | 0 => exact .inl rfl
    | 1 => exact .inr (.inl rfl)
    | k + 2 => exact .inr (.inr rfl)
  rcases this with h | h | h <;> rw [h] <;> by_cases hp : 0 < p.part <;> cases p.ow <;> cases p.two <;> first | rw [if_pos hp]; decide +kernel | rw [if_neg hp]; decide +kernel
theorem own_mem (h : p.ow = true → p.kids ≠ 0) : p.owner ∈ p.names := by
  unfold Plan.owner
  cases q : p.ow with
  | false => exact names_A p
  | true =>
    refine kids_names ?_
    have := h q
    match p.kids, this with
    | 1, _ => exact .head _
    | k + 2, _ => exact .head _
theorem inst_ok (C : Cx) (ho : p.ow = true → p.kids ≠ 0) (h3 : p.kind ≤ 3) (hc : cs.length ≤ 1000) (hk : k + 40 ≤ 9000) (τ : List Cell) : ∃ γ α β, Good p γ α β ∧ ∃ k', k' ≤ k + 40 ∧ Con C tab 100 f__law_instance [.loc 0, planV p] (feedC cs k :: τ) (hereV (p.nm.map γ)) (feedC cs k' :: τ) := by
  obtain ⟨k', As, Rs, hk', la, oka, lr, okr, c⟩ := inst_run (C := C) (p := p) (τ := τ) hc hk
  obtain ⟨γ, e⟩ := ex_map (l := p.nm) (RL := As.map at1 ++ Rs) (nm_nodup p) (by unfold Plan.nm; rw [List.length_append, List.length_append, List.length_map, List.length_map, la, lr])
  obtain ⟨e1, e2⟩ := List.append_inj ((List.map_append (f := γ) (l₁ := p.names) (l₂ := p.fields.map fun f => p.owner ++ "." ++ f)).symm.trans e) (by rw [List.length_map, List.length_map, la])
  have fl : ∀ f ∈ p.fields, γ (p.owner ++ "." ++ f) ∈ Rs := fun f m => e2 ▸ List.mem_map_of_mem (List.mem_map_of_mem m)
  refine ⟨γ, fun x => (γ x).map r0, fun f => γ (p.owner ++ "." ++ f), ⟨own_mem ho, fun x m => ?_, fun f m => ⟨rfl, Nat.le_trans (okr _ (fl f m)).2 (by decide), (okr _ (fl f m)).1.1⟩, fun f m r hr => ((okr _ (fl f m)).1.2 r hr).trans (kind3 h3)⟩, k', hk', ?_⟩
  · obtain ⟨as, ha, q⟩ := List.mem_map.mp (e1 ▸ List.mem_map_of_mem m : γ x ∈ As.map at1)
    have : (γ x).map r0 = as := by
      rw [← q, List.map_map]
      exact List.map_id as
    show γ x = at1 ((γ x).map r0) ∧ _
    rw [this]
    exact ⟨q.symm, oka as ha⟩
  · show Con C tab 100 f__law_instance _ _ (.lst ((p.nm.map γ).map relV)) _
    rw [e, List.map_append, List.map_map]
    exact c
end
theorem name_cases {p : Plan} {x : String} (h : x ∈ p.names) : x = "A" ∨ x = "B" ∨ x = "C" ∨ x = "D" ∨ x = "E" := by
  rcases List.mem_append.mp h with h | h
  · rcases List.mem_cons.mp h with h | h
    · exact .inl h
    · exact .inr (.inl (List.mem_singleton.mp h))
  · rcases List.mem_append.mp h with h | h
    · rcases List.mem_cons.mp (List.mem_of_mem_take (kids_take p.kids ▸ h : x ∈ ["C", "D"].take p.kids)) with h | h
      · exact .inr (.inr (.inl h))
      · exact .inr (.inr (.inr (.inl (List.mem_singleton.mp h))))
    · split at h
      · exact .inr (.inr (.inr (.inr (List.mem_singleton.mp h))))
      · exact absurd h List.not_mem_nil
theorem mu_some {p : Plan} {x : String} (h : x ∈ p.names) : muV p x = some (sv (muS p x)) := by
  rcases name_cases h with rfl | rfl | rfl | rfl | rfl <;> kernel_rfl
theorem node_pl {p : Plan} {k : Nat} : (nodeV p).pl (k + 10) = true := by
  unfold nodeV
  split <;> kernel_rfl
theorem fact_pl {p : Plan} {k : Nat} : V.pls (k + 10) (factV p) = true := by
  unfold factV
  split <;> kernel_rfl
theorem item_pl {p : Plan} {x : String} (k : Nat) : (itemP p x).pl (k + 20) = true := by
  show (true && (true && (V.pls (k + 18) [sv x] && (true && (true && (true && (V.pls (k + 18) (strsV (supG p.part x)) && (V.pls (k + 18) (if x == p.owner then [declG p.fields p.mult (nodeV p) p.two] else []) && (V.pls (k + 18) (if x == p.owner then factV p else []) && true))))))))) = true
  rw [pls_strs]
  split
  · rw [show V.pls (k + 18) (factV p) = true from fact_pl (k := k + 8)]
    show (true && (V.pls (k + 17) [.int 0, .bool p.two, .tup (strsV p.fields), sv p.mult, nodeV p] && true)) && true = true
    show (true && ((true && (true && (V.pls (k + 16) (strsV p.fields) && (true && ((nodeV p).pl (k + 17) && true))))) && true)) && true = true
    rw [pls_strs, show (nodeV p).pl (k + 17) = true from node_pl (k := k + 7)]
    rfl
  · rfl
section
variable {C : Cx} {f g : Cell} {p : Plan} {x : String} {L : List V}
abbrev itB : List Stmt := f__law_items.body
abbrev itM0 (p : Plan) (fc : List V) : M := [(S "fact", .tup fc), (S "decl", declG p.fields p.mult (nodeV p) p.two), (S "node", nodeV p), (S "b", nameE "B"), (S "a", nameE "A"), (S "plan", planV p)]
abbrev itM (p : Plan) : M := (S "found", .loc 2) :: itM0 p (factV p)
abbrev itV (p : Plan) (x : String) (ab own : Bool) : V := .tup [sv "sig", .int 0, .tup [sv x], .bool (ab && x == "A"), sv (muS p x), sv (parS x), .tup (strsV (supG p.part x)), .tup (cond own [declG p.fields p.mult (nodeV p) p.two] []), .tup (cond own (factV p) [])]
theorem item_eq (p : Plan) (x : String) : itemP p x = itV p x p.ab (x == p.owner) := by
  unfold itemP itemG itV
  rw [Bool.and_comm]
  cases x == p.owner <;> rfl
theorem app_2 {f g : Cell} (L : List V) (d : V) (l : L.length ≤ 50000) : evMeth [0] .append (.loc 2) [d] [f, g, .list L] = some (.none, [f, g, .list (L ++ [d])]) := by
  show cond (Nat.ble L.length 50000) (some (V.none, [f, g, .list (L ++ [d])])) none = _
  rw [Nat.ble_eq_true_of_le l]
  rfl
theorem it_turn {m : M} (hx : x ∈ p.names) (hk : p.part ≤ 2) (l : L.length ≤ 50000) (hm : NestT (S "name") (S "own") (itM p) (sv x) m) : To2 (fun q => (ev C tab 54).x [0] f__law_items.sc.names (thenA (stA itB 5)) q m [f, g, .list L]) .next ((S "own", .bool (x == p.owner)) :: (S "name", sv x) :: itM p) [f, g, .list (L ++ [itemP p x])] := by
  have c1 := l_parent (C := C) (σ := [f, g, .list L]) (x := x) (plan := planV p)
  have c2 := l_supers (C := C) (σ := [f, g, .list L]) (x := x) hk
  have o2 := fun d E (e : E) => ob (ixd_of (σ := [f, g, .list L]) (mu_some hx)) (ob c1 (ob c2 (ob (app_2 (f := f) (g := g) L d l) e)))
  rw [item_eq]
  cases h1 : x == p.owner with
  | true => cases h2 : p.ab with
    | true =>
      have o := fun E (e : E) => ob (eq_strs [f, g, .list L] h1) (ob (congrArg some h2) (ob (eq_strs [f, g, .list L] rfl : evCop .Eq (sv x) (sv "A") [f, g, .list L] = some (x == "A")) (o2 (itV p x true true) _ e)))
      cases hm with
      | a => exact body_of (q := [.b 634035 true, .t 635057 true, .b 635073 (x == "A"), .v 635094 (sv (muS p x)), .c 635119 20 (sv (parS x)), .c 635144 20 (.tup (strsV (supG p.part x))), .w 635191 .none [f, g, .list (L ++ [itV p x true true])]]) o fun k => by kernel_rfl
      | b w => exact body_of (q := [.b 634035 true, .t 635057 true, .b 635073 (x == "A"), .v 635094 (sv (muS p x)), .c 635119 20 (sv (parS x)), .c 635144 20 (.tup (strsV (supG p.part x))), .w 635191 .none [f, g, .list (L ++ [itV p x true true])]]) o fun k => by kernel_rfl
    | false =>
      have o := fun E (e : E) => ob (eq_strs [f, g, .list L] h1) (ob (congrArg some h2) (o2 (itV p x false true) _ e))
      cases hm with
      | a => exact body_of (q := [.b 634035 true, .t 635057 false, .v 635094 (sv (muS p x)), .c 635119 20 (sv (parS x)), .c 635144 20 (.tup (strsV (supG p.part x))), .w 635191 .none [f, g, .list (L ++ [itV p x false true])]]) o fun k => by kernel_rfl
      | b w => exact body_of (q := [.b 634035 true, .t 635057 false, .v 635094 (sv (muS p x)), .c 635119 20 (sv (parS x)), .c 635144 20 (.tup (strsV (supG p.part x))), .w 635191 .none [f, g, .list (L ++ [itV p x false true])]]) o fun k => by kernel_rfl
  | false => cases h2 : p.ab with
    | true =>
      have o := fun E (e : E) => ob (eq_strs [f, g, .list L] h1) (ob (congrArg some h2) (ob (eq_strs [f, g, .list L] rfl : evCop .Eq (sv x) (sv "A") [f, g, .list L] = some (x == "A")) (o2 (itV p x true false) _ e)))
      cases hm with
      | a => exact body_of (q := [.b 634035 false, .t 635057 true, .b 635073 (x == "A"), .v 635094 (sv (muS p x)), .c 635119 20 (sv (parS x)), .c 635144 20 (.tup (strsV (supG p.part x))), .w 635191 .none [f, g, .list (L ++ [itV p x true false])]]) o fun k => by kernel_rfl
      | b w => exact body_of (q := [.b 634035 false, .t 635057 true, .b 635073 (x == "A"), .v 635094 (sv (muS p x)), .c 635119 20 (sv (parS x)), .c 635144 20 (.tup (strsV (supG p.part x))), .w 635191 .none [f, g, .list (L ++ [itV p x true false])]]) o fun k => by kernel_rfl
    | false =>
      have o := fun E (e : E) => ob (eq_strs [f, g, .list L] h1) (ob (congrArg some h2) (o2 (itV p x false false) _ e))
      cases hm with
      | a => exact body_of (q := [.b 634035 false, .t 635057 false, .v 635094 (sv (muS p x)), .c 635119 20 (sv (parS x)), .c 635144 20 (.tup (strsV (supG p.part x))), .w 635191 .none [f, g, .list (L ++ [itV p x false false])]]) o fun k => by kernel_rfl
      | b w => exact body_of (q := [.b 634035 false, .t 635057 false, .v 635094 (sv (muS p x)), .c 635119 20 (sv (parS x)), .c 635144 20 (.tup (strsV (supG p.part x))), .w 635191 .none [f, g, .list (L ++ [itV p x false false])]]) o fun k => by kernel_rfl
inductive It1 (p : Plan) (f g : Cell) (xs : List String) (m : M) (s : List Cell) : Prop
  | mk (ys : List String) (es : s = [f, g, .list (ys.map (itemP p))]) (ln : p.names = ys ++ xs) (hm : NestM (S "name") (S "own") (itM p) m)
theorem it_for (hk : p.part ≤ 2) : ∃ m', NestM (S "name") (S "own") (itM p) m' ∧ ForP (ev C tab 54) [0] f__law_items.sc.names (tgA (stA itB 5)) (thenA (stA itB 5)) (strsV p.names) (itM p) [f, g, .list []] .next m' [f, g, .list (itemsL p)] := by
  obtain ⟨fl, m', s', ⟨rfl, i⟩, t⟩ := for_ex (r := ev C tab 54) (lk := [0]) (nk := f__law_items.sc.names) (body := thenA (stA itB 5)) (y := S "name") (p := (tgA (stA itB 5)).pos) (g := sv) (I := It1 p f g) (E := fun f' m s => f' = .next ∧ It1 p f g [] m s) (by kernel_rfl) (fun m s i => ⟨rfl, i⟩) (fun x xs m s i => by
    obtain ⟨ys, rfl, ln, hm⟩ := i
    have ly : (ys.map (itemP p)).length ≤ 50000 := by
      rw [List.length_map]
      exact Nat.le_trans (Nat.le_trans (Nat.le_add_right ..) (Nat.le_of_eq (List.length_append.symm.trans (congrArg _ ln.symm)))) (nms_len p)
    refine ⟨.next, _, _, it_turn (ln ▸ List.mem_append_right _ (.head _)) hk ly (hm.turn (by kernel_rfl) (by kernel_rfl) (sv x)), ⟨ys ++ [x], ?_, ln.trans (List.append_assoc ys [x] xs).symm, .c _ _⟩⟩
    rw [List.map_append]
    rfl) p.names ⟨[], rfl, rfl, .a⟩
  obtain ⟨ys, rfl, ln, hm⟩ := i
  rw [List.append_nil] at ln
  subst ln
  exact ⟨m', hm, t []⟩
theorem it_node (h : p.kind ≤ 3) : evIdx (.loc 1) (.int p.kind) [f, .list [nameE "B", nameE "A", .tup [sv "bin", .int 0, sv "+", nameE "A", nameE "B"], .tup [sv "arrow", .int 0, sv p.left, sv p.right, nameE "B", nameE "A"]]] = some (nodeV p) := by
  unfold nodeV
  generalize p.kind = k at h
  match k, h with
  | 0, _ => rfl
  | 1, _ => rfl
  | 2, _ => rfl
  | 3, _ => rfl
abbrev itNd (p : Plan) : List V := [nameE "B", nameE "A", .tup [sv "bin", .int 0, sv "+", nameE "A", nameE "B"], .tup [sv "arrow", .int 0, sv p.left, sv p.right, nameE "B", nameE "A"]]
theorem it_ret {m : M} (hm : NestM (S "name") (S "own") (itM p) m) (s : List Cell) : To2 (Seg (ev C tab 54) [0] f__law_items.sc.names 636016 (itB.drop 6) m s) (.ret (.loc 2)) m s := by
  cases hm with
  | a => exact seg_of (q := []) (fun _ e => e) fun k => by kernel_rfl
  | b v => exact seg_of (q := []) (fun _ e => e) fun k => by kernel_rfl
  | c w v => exact seg_of (q := []) (fun _ e => e) fun k => by kernel_rfl
  | d w v => exact seg_of (q := []) (fun _ e => e) fun k => by kernel_rfl
abbrev itN : Nk := f__law_items.sc.names
theorem it_3 {m' : M} {s s' : List Cell} (h : To2 (Seg (ev C tab 56) [0] itN 632014 (itB.drop 4) (itM0 p (factV p)) s) (.ret (.loc 2)) m' s') : To2 (Seg (ev C tab 57) [0] itN 631085 (itB.drop 3) (itM0 p (factV p)).tail s) (.ret (.loc 2)) m' s' := by
  cases q : p.fact == "" with
  | true =>
    have e : factV p = [] := by
      unfold factV
      rw [q]
      rfl
    rw [e] at h
    exact seg_x h (q1 := fun q => .b 631077 false :: .m 632014 :: q) (fun _ e => ob (ne_strs s q) e) fun X k q => by kernel_rfl
  | false =>
    have e : factV p = [.tup [sv "un", .int 0, sv p.fact, nameE "f"]] := by
      unfold factV
      rw [q]
      rfl
    rw [e] at h
    exact seg_x h (q1 := fun q => .b 631077 true :: .m 632014 :: q) (fun _ e => ob (ne_strs s q) e) fun X k q => by kernel_rfl
theorem items_ok (C : Cx) (f : Cell) (hk : p.part ≤ 2) (h3 : p.kind ≤ 3) : Con C tab 60 f__law_items [planV p] [f] (.lst (itemsL p)) [f] := by
  obtain ⟨m', hm, t⟩ := it_for (C := C) (f := f) (g := .list (itNd p)) hk
  have a6 := it_ret (C := C) hm [f, .list (itNd p), .list (itemsL p)]
  have a5 : To2 (Seg (ev C tab 55) [0] itN 633191 (itB.drop 5) (itM p) [f, .list (itNd p), .list []]) (.ret (.loc 2)) m' [f, .list (itNd p), .list (itemsL p)] :=
    seg_seq a6 (q1 := fun q => .f 633191 .next m' [f, .list (itNd p), .list (itemsL p)] :: .m 636016 :: q) (fun _ e => ob t e) fun k q => by kernel_rfl
  have a4 : To2 (Seg (ev C tab 56) [0] itN 632014 (itB.drop 4) (itM0 p (factV p)) [f, .list (itNd p)]) (.ret (.loc 2)) m' [f, .list (itNd p), .list (itemsL p)] := seg_x a5 (q1 := fun q => .m 633191 :: q) (fun _ e => e) fun X k q => by kernel_rfl
  have w := len_of (σ := [f, .list (itNd p)]) (d := .tup (strsV p.fields)) rfl (by rw [strs_len]; exact Nat.le_trans (flds_len p).2 (by decide))
  rw [strs_len] at w
  have t2 : evCop .Gt (.int p.fields.length) (.int 1) [f, .list (itNd p)] = some p.two := by
    unfold Plan.fields
    cases p.two <;> rfl
  have a2 : To2 (Seg (ev C tab 58) [0] itN 630075 (itB.drop 2) ((itM0 p (factV p)).drop 2) [f, .list (itNd p)]) (.ret (.loc 2)) m' [f, .list (itNd p), .list (itemsL p)] := seg_x (it_3 a4) (q1 := fun q => .w 630034 (.int p.fields.length) [f, .list (itNd p)] :: .b 630038 p.two :: .m 631085 :: q) (fun _ e => ob w (ob t2 e)) fun X k q => by kernel_rfl
  have a1 : To2 (Seg (ev C tab 59) [0] itN 629103 (itB.drop 1) ((itM0 p (factV p)).drop 3) [f]) (.ret (.loc 2)) m' [f, .list (itNd p), .list (itemsL p)] := seg_x a2 (q1 := fun q => .v 629103 (nodeV p) :: .m 630075 :: q) (fun _ e => ob (it_node (f := f) h3) e) fun X k q => by kernel_rfl
  have a0 : To2 (Seg (ev C tab 60) [0] itN 628047 itB [(S "plan", planV p)] [f]) (.ret (.loc 2)) m' [f, .list (itNd p), .list (itemsL p)] := seg_x a1 (q1 := fun q => .m 629103 :: q) (fun _ e => e) fun X k q => by kernel_rfl
  exact con_x (Fin (.lst (itemsL p)) [f]) a0 (by
    show opt (frd [f, .list (itNd p), .list (itemsL p)] 1 9 (.loc 2)) (fun d => d = .lst (itemsL p) ∧ [f] = [f])
    rw [show frd [f, .list (itNd p), .list (itemsL p)] 1 9 (.loc 2) = some (.lst (itemsL p)) from fr_loc rfl (by decide) (pls_map (fun x => item_pl 10) _)]
    exact ⟨rfl, rfl⟩) fun X q => by kernel_rfl
end
abbrev SigRun (C : Cx) (kids part : Nat) (ow two : Bool) : Prop := ∀ (fd : Cell) (ab : Bool) (mu : String → String) (mult : String) (node : V) (fact : List V), Con C tab 60 m_Signatures___init__ [.obj 630 1, .lst (itG kids part ow two ab mu mult node fact)] [fd, .dict []] .none (sigSt fd kids part ow two ab mu mult node fact)
abbrev SigEq (kids part : Nat) (ow two : Bool) : Prop := ∀ (C : Cx) (fd : Cell) (ab : Bool) (mu : String → String) (mult : String) (node : V) (fact : List V), evFn (ev C tab 60) [] m_Signatures___init__ [] [.obj 630 1, .lst (itG kids part ow two ab mu mult node fact)] [fd, .dict []] (fun _ d s => d = .none ∧ s = sigSt fd kids part ow two ab mu mult node fact) = (V.none = V.none ∧ sigSt fd kids part ow two ab mu mult node fact = sigSt fd kids part ow two ab mu mult node fact)
theorem SigEq.run {kids part : Nat} {ow two : Bool} (h : SigEq kids part ow two) (C : Cx) : SigRun C kids part ow two := fun fd ab mu mult node fact => con_to (P := fun E => E) (fun _ e => e) (h C fd ab mu mult node fact)
theorem sig_00f : ∀ two, SigEq 0 0 false two := fun two => by
  cases two with
  | false => exact fun C fd ab mu mult node fact => by kernel_rfl
  | true => exact fun C fd ab mu mult node fact => by kernel_rfl
theorem sig_01f : ∀ two, SigEq 0 1 false two := fun two => by
  cases two with
  | false => exact fun C fd ab mu mult node fact => by kernel_rfl
  | true => exact fun C fd ab mu mult node fact => by kernel_rfl
theorem sig_02f : ∀ two, SigEq 0 2 false two := fun two => by
  cases two with
  | false => exact fun C fd ab mu mult node fact => by kernel_rfl
  | true => exact fun C fd ab mu mult node fact => by kernel_rfl
theorem sig_10f : ∀ two, SigEq 1 0 false two := fun two => by
  cases two with
  | false => exact fun C fd ab mu mult node fact => by kernel_rfl
  | true => exact fun C fd ab mu mult node fact => by kernel_rfl
theorem sig_10t : ∀ two, SigEq 1 0 true two := fun two => by
  cases two with
  | false => exact fun C fd ab mu mult node fact => by kernel_rfl
  | true => exact fun C fd ab mu mult node fact => by kernel_rfl
theorem sig_11f : ∀ two, SigEq 1 1 false two := fun two => by
  cases two with
  | false => exact fun C fd ab mu mult node fact => by kernel_rfl
  | true => exact fun C fd ab mu mult node fact => by kernel_rfl
theorem sig_11t : ∀ two, SigEq 1 1 true two := fun two => by
  cases two with
  | false => exact fun C fd ab mu mult node fact => by kernel_rfl
  | true => exact fun C fd ab mu mult node fact => by kernel_rfl
theorem sig_12f : ∀ two, SigEq 1 2 false two := fun two => by
  cases two with
  | false => exact fun C fd ab mu mult node fact => by kernel_rfl
  | true => exact fun C fd ab mu mult node fact => by kernel_rfl
theorem sig_12t : ∀ two, SigEq 1 2 true two := fun two => by
  cases two with
  | false => exact fun C fd ab mu mult node fact => by kernel_rfl
  | true => exact fun C fd ab mu mult node fact => by kernel_rfl
theorem sig_20f : ∀ two, SigEq 2 0 false two := fun two => by
  cases two with
  | false => exact fun C fd ab mu mult node fact => by kernel_rfl
  | true => exact fun C fd ab mu mult node fact => by kernel_rfl
theorem sig_20t : ∀ two, SigEq 2 0 true two := fun two => by
  cases two with
  | false => exact fun C fd ab mu mult node fact => by kernel_rfl
  | true => exact fun C fd ab mu mult node fact => by kernel_rfl
theorem sig_21f : ∀ two, SigEq 2 1 false two := fun two => by
  cases two with
  | false => exact fun C fd ab mu mult node fact => by kernel_rfl
  | true => exact fun C fd ab mu mult node fact => by kernel_rfl
theorem sig_21t : ∀ two, SigEq 2 1 true two := fun two => by
  cases two with
  | false => exact fun C fd ab mu mult node fact => by kernel_rfl
  | true => exact fun C fd ab mu mult node fact => by kernel_rfl
theorem sig_22f : ∀ two, SigEq 2 2 false two := fun two => by
  cases two with
  | false => exact fun C fd ab mu mult node fact => by kernel_rfl
  | true => exact fun C fd ab mu mult node fact => by kernel_rfl
theorem sig_22t : ∀ two, SigEq 2 2 true two := fun two => by
  cases two with
  | false => exact fun C fd ab mu mult node fact => by kernel_rfl
  | true => exact fun C fd ab mu mult node fact => by kernel_rfl
theorem sig_all : ∀ kids part ow two, kids ≤ 2 → part ≤ 2 → (ow = true → kids ≠ 0) → SigEq kids part ow two := by
  intro k q o two hk hq ho
  have h3 : ∀ {n : Nat}, n ≤ 2 → n = 0 ∨ n = 1 ∨ n = 2 := fun {n} h => by
    rcases Nat.lt_or_eq_of_le h with h | h
    · rcases Nat.lt_or_eq_of_le (Nat.le_of_lt_succ h) with h | h
      · exact .inl (Nat.le_zero.mp (Nat.le_of_lt_succ h))
      · exact .inr (.inl h)
    · exact .inr (.inr h)
  rcases h3 hk with rfl | rfl | rfl
  · rcases h3 hq with rfl | rfl | rfl
    · cases o with
      | false => exact sig_00f two
      | true => exact absurd rfl (ho rfl)
    · cases o with
      | false => exact sig_01f two
      | true => exact absurd rfl (ho rfl)
    · cases o with
      | false => exact sig_02f two
      | true => exact absurd rfl (ho rfl)
  · rcases h3 hq with rfl | rfl | rfl
    · cases o with
      | false => exact sig_10f two
      | true => exact sig_10t two
    · cases o with
      | false => exact sig_11f two
      | true => exact sig_11t two
    · cases o with
      | false => exact sig_12f two
      | true => exact sig_12t two
  · rcases h3 hq with rfl | rfl | rfl
    · cases o with
      | false => exact sig_20f two
      | true => exact sig_20t two
    · cases o with
      | false => exact sig_21f two
      | true => exact sig_21t two
    · cases o with
      | false => exact sig_22f two
      | true => exact sig_22t two
theorem sig_init {p : Plan} (C : Cx) (hk : p.kids ≤ 2) (hq : p.part ≤ 2) (ho : p.ow = true → p.kids ≠ 0) (fd : Cell) : Con C tab 60 m_Signatures___init__ [.obj 630 1, .lst (itemsL p)] [fd, .dict []] .none (sigSt fd p.kids p.part p.ow p.two p.ab (muS p) p.mult (nodeV p) (factV p)) := (sig_all p.kids p.part p.ow p.two hk hq ho).run C fd p.ab (muS p) p.mult (nodeV p) (factV p)
section
variable {C : Cx} {fd a : Cell} {p : Plan} {x y : String} {c : Nat} {τ : List Cell} {L : List V}
theorem oAt (fd : Cell) (p : Plan) (c : Nat) (τ : List Cell) : OpAt p .none (.lst (itemsL p)) c (bas fd p c τ) := ⟨rfl, rfl, rfl⟩
theorem sAt (fd : Cell) (p : Plan) (c : Nat) (τ : List Cell) : SigAt p (bas fd p c τ) := ⟨rfl, rfl, rfl, rfl, rfl⟩
theorem b_rel (C : Cx) (fd : Cell) (c : Nat) (τ : List Cell) (hy : y ∈ p.nm) : Con C tab 20 f_relation [.obj 463 8, sv y] (bas fd p c τ) (relE (p.num y)) (bas fd p c τ) := i_rel (oAt fd p c τ) hy
theorem b_par (C : Cx) (fd : Cell) (c : Nat) (τ : List Cell) (hx : x ∈ p.names) : Con C tab 20 m_Signatures_parent [.obj 630 1, sv x] (bas fd p c τ) (sv (parS x)) (bas fd p c τ) := s_parent (sAt fd p c τ) hx
theorem b_sup (C : Cx) (fd : Cell) (c : Nat) (τ : List Cell) (hx : x ∈ p.names) : Con C tab 20 m_Signatures_supers [.obj 630 1, sv x] (bas fd p c τ) (.tup (strsV (supG p.part x))) (bas fd p c τ) := s_supers (sAt fd p c τ) hx
theorem b_mul (C : Cx) (fd : Cell) (c : Nat) (τ : List Cell) (hx : x ∈ p.names) : Con C tab 20 m_Signatures_mult [.obj 630 1, sv x] (bas fd p c τ) (sv (muS p x)) (bas fd p c τ) := s_mult (sAt fd p c τ) hx
theorem b_app (fd : Cell) (p : Plan) (c : Nat) (a : Cell) (d : V) (l : L.length ≤ 5) : evMeth (List.range 11) .append (.loc 11) [d] (bas fd p c [a, .list L]) = some (.none, bas fd p c [a, .list (L ++ [d])]) := by
  show cond (Nat.ble L.length 50000) (some (V.none, bas fd p c [a, .list (L ++ [d])])) none = _
  rw [Nat.ble_eq_true_of_le (Nat.le_trans l (by decide))]
  rfl
abbrev plB : List Stmt := f_place_formulas.body
abbrev plN : Nk := f_place_formulas.sc.names
abbrev plM (p : Plan) (x : String) : M := [(S "own", relE (p.num x)), (S "found", .loc 11), (S "signatures", .obj 630 1), (S "opener", .obj 463 8), (S "name", sv x)]
theorem mu_in {s : String} (h : Mu4 s) {b : Bool} (q : (s == "") = b) : ["one", "lone", "some"].contains s = !b := by
  rw [← q]
  rcases h with rfl | rfl | rfl | rfl <;> rfl
theorem p_tail (hx : x ∈ p.names) (hm : Mu4 (muS p x)) (l : L.length ≤ 5) : To2 (Seg (ev C tab 57) (List.range 11) plN 24050 (plB.drop 3) (plM p x) (bas fd p c [a, .list L])) (.ret (.loc 11)) (plM p x) (bas fd p c [a, .list (L ++ mulF p x (muS p x))]) := by
  have m := b_mul C fd c [a, .list L] hx
  unfold mulF
  cases h : muS p x == "" with
  | true =>
    rw [show L ++ cond true [] _ = L from List.append_nil L]
    exact seg_of (q := [.c 24028 20 (sv (muS p x)), .b 24055 false]) (fun _ e => ob m (ob (in_strs (bas fd p c [a, .list L]) (mu_in hm h)) e)) fun k => by kernel_rfl
  | false => exact seg_of (q := [.c 24028 20 (sv (muS p x)), .b 24055 true, .c 25043 20 (sv (muS p x)), .w 25050 .none (bas fd p c [a, .list (L ++ [manyE (muS p x) (relE (p.num x))])])]) (fun _ e => ob m (ob (in_strs (bas fd p c [a, .list L]) (mu_in hm h)) (ob m (ob (b_app fd p c a (manyE (muS p x) (relE (p.num x))) l) e)))) fun k => by kernel_rfl
theorem p_s0 (hx : x ∈ p.names) (hm : Mu4 (muS p x)) (l : L.length ≤ 5) (hs : supG p.part x = []) : To2 (Seg (ev C tab 58) (List.range 11) plN 22110 (plB.drop 2) (plM p x) (bas fd p c [a, .list L])) (.ret (.loc 11)) (plM p x) (bas fd p c [a, .list (L ++ mulF p x (muS p x))]) :=
  seg_seq (p_tail (C := C) hx hm (L := L) l) (q1 := fun q => .c 22034 20 (.tup []) :: .m 24050 :: q) (fun _ e => ob (hs ▸ b_sup C fd c [a, .list L] hx : Con C tab 20 m_Signatures_supers [.obj 630 1, sv x] (bas fd p c [a, .list L]) (.tup (strsV [])) (bas fd p c [a, .list L])) e) fun k q => by kernel_rfl
theorem p_s1 (hx : x ∈ p.names) (hm : Mu4 (muS p x)) (l : L.length ≤ 4) (hs : supG p.part x = ["A"]) : To2 (Seg (ev C tab 58) (List.range 11) plN 22110 (plB.drop 2) (plM p x) (bas fd p c [a, .list L])) (.ret (.loc 11)) (plM p x) (bas fd p c [a, .list ((L ++ [inE (relE (p.num x)) (uniE p ["A"])]) ++ mulF p x (muS p x))]) :=
  seg_seq (p_tail (C := C) hx hm (L := (L ++ [inE (relE (p.num x)) (uniE p ["A"])])) (by rw [List.length_append]; exact Nat.add_le_add_right l 1)) (q1 := fun q => .c 22034 20 (.tup [sv "A"]) :: .c 23106 20 (.tup [sv "A"]) :: .c 23071 20 (relE (p.num "A")) :: .w 23110 .none (bas fd p c [a, .list (L ++ [(inE (relE (p.num x)) (uniE p ["A"]))])]) :: .m 24050 :: q) (fun _ e => ob (hs ▸ b_sup C fd c [a, .list L] hx : Con C tab 20 m_Signatures_supers [.obj 630 1, sv x] (bas fd p c [a, .list L]) (.tup (strsV ["A"])) (bas fd p c [a, .list L])) (ob (hs ▸ b_sup C fd c [a, .list L] hx : Con C tab 20 m_Signatures_supers [.obj 630 1, sv x] (bas fd p c [a, .list L]) (.tup (strsV ["A"])) (bas fd p c [a, .list L])) (ob (b_rel C fd c [a, .list L] (names_nm (names_A p))) (ob (b_app fd p c a (inE (relE (p.num x)) (uniE p ["A"])) (Nat.le_trans l (by decide))) e)))) fun k q => by kernel_rfl
theorem p_s2 (hx : x ∈ p.names) (hm : Mu4 (muS p x)) (l : L.length ≤ 4) (hs : supG p.part x = ["A", "B"]) : To2 (Seg (ev C tab 58) (List.range 11) plN 22110 (plB.drop 2) (plM p x) (bas fd p c [a, .list L])) (.ret (.loc 11)) (plM p x) (bas fd p c [a, .list ((L ++ [inE (relE (p.num x)) (uniE p ["A", "B"])]) ++ mulF p x (muS p x))]) :=
  seg_seq (p_tail (C := C) hx hm (L := (L ++ [inE (relE (p.num x)) (uniE p ["A", "B"])])) (by rw [List.length_append]; exact Nat.add_le_add_right l 1)) (q1 := fun q => .c 22034 20 (.tup [sv "A", sv "B"]) :: .c 23106 20 (.tup [sv "A", sv "B"]) :: .c 23071 20 (relE (p.num "A")) :: .c 23071 20 (relE (p.num "B")) :: .w 23110 .none (bas fd p c [a, .list (L ++ [(inE (relE (p.num x)) (uniE p ["A", "B"]))])]) :: .m 24050 :: q) (fun _ e => ob (hs ▸ b_sup C fd c [a, .list L] hx : Con C tab 20 m_Signatures_supers [.obj 630 1, sv x] (bas fd p c [a, .list L]) (.tup (strsV ["A", "B"])) (bas fd p c [a, .list L])) (ob (hs ▸ b_sup C fd c [a, .list L] hx : Con C tab 20 m_Signatures_supers [.obj 630 1, sv x] (bas fd p c [a, .list L]) (.tup (strsV ["A", "B"])) (bas fd p c [a, .list L])) (ob (b_rel C fd c [a, .list L] (names_nm (names_A p))) (ob (b_rel C fd c [a, .list L] (names_nm (names_B p))) (ob (b_app fd p c a (inE (relE (p.num x)) (uniE p ["A", "B"])) (Nat.le_trans l (by decide))) e))))) fun k q => by kernel_rfl
theorem p_pA {s' : List Cell} (hx : x ∈ p.names) (hp : parS x = "A") (t : To2 (Seg (ev C tab 58) (List.range 11) plN 22110 (plB.drop 2) (plM p x) (bas fd p c [a, .list [inE (relE (p.num x)) (uniE p ["A"])]])) (.ret (.loc 11)) (plM p x) s') : To2 (Seg (ev C tab 59) (List.range 11) plN 20076 (plB.drop 1) (plM p x) (bas fd p c [a, .list []])) (.ret (.loc 11)) (plM p x) s' :=
  seg_seq t (q1 := fun q => .c 20030 20 (sv "A") :: .c 21073 20 (sv "A") :: .c 21074 20 (relE (p.num "A")) :: .w 21076 .none (bas fd p c [a, .list [(inE (relE (p.num x)) (uniE p ["A"]))]]) :: .m 22110 :: q) (fun _ e => ob (hp ▸ b_par C fd c [a, .list []] hx : Con C tab 20 m_Signatures_parent [.obj 630 1, sv x] (bas fd p c [a, .list []]) (sv "A") (bas fd p c [a, .list []])) (ob (hp ▸ b_par C fd c [a, .list []] hx : Con C tab 20 m_Signatures_parent [.obj 630 1, sv x] (bas fd p c [a, .list []]) (sv "A") (bas fd p c [a, .list []])) (ob (b_rel C fd c [a, .list []] (names_nm (names_A p))) (ob (b_app fd p c a (L := []) (inE (relE (p.num x)) (uniE p ["A"])) (by decide)) e)))) fun k q => by kernel_rfl
theorem p_p0 {s' : List Cell} (hx : x ∈ p.names) (hp : parS x = "") (t : To2 (Seg (ev C tab 58) (List.range 11) plN 22110 (plB.drop 2) (plM p x) (bas fd p c [a, .list []])) (.ret (.loc 11)) (plM p x) s') : To2 (Seg (ev C tab 59) (List.range 11) plN 20076 (plB.drop 1) (plM p x) (bas fd p c [a, .list []])) (.ret (.loc 11)) (plM p x) s' :=
  seg_seq t (q1 := fun q => .c 20030 20 (sv "") :: .m 22110 :: q) (fun _ e => ob (hp ▸ b_par C fd c [a, .list []] hx : Con C tab 20 m_Signatures_parent [.obj 630 1, sv x] (bas fd p c [a, .list []]) (sv "") (bas fd p c [a, .list []])) e) fun k q => by kernel_rfl
theorem place_pl (p : Plan) (x mu : String) (ys : List String) (k : Nat) : V.pls (k + 20) (inF p x ys ++ mulF p x mu) = true := by
  unfold inF mulF uniE
  cases ys.isEmpty <;> cases mu == "" <;> cases ys.tail.isEmpty <;> kernel_rfl
theorem p_all {s : List V} (hx : x ∈ p.names) (t : To2 (Seg (ev C tab 59) (List.range 11) plN 20076 (plB.drop 1) (plM p x) (bas fd p c [a, .list []])) (.ret (.loc 11)) (plM p x) (bas fd p c [a, .list s])) (hs : V.pls 30 s = true) : Con C tab 60 f_place_formulas [.obj 630 1, .obj 463 8, sv x] (bas fd p c [a]) (.lst s) (bas fd p c [a]) :=
  con_x (Fin (.lst s) (bas fd p c [a])) (seg_x t (i := 19045) (body := plB) (σ := bas fd p c [a]) (m := [(S "signatures", .obj 630 1), (S "opener", .obj 463 8), (S "name", sv x)]) (q1 := fun q => .c 19040 20 (relE (p.num x)) :: .m 20076 :: q) (fun _ e => ob (b_rel C fd c [a] (names_nm hx)) e) fun X k q => by kernel_rfl) (by
    show opt (frd (bas fd p c [a, .list s]) 11 9 (.loc 11)) (fun d => d = .lst s ∧ bas fd p c [a] = bas fd p c [a])
    rw [show frd (bas fd p c [a, .list s]) 11 9 (.loc 11) = some (.lst s) from fr_loc rfl (by decide) hs]
    exact ⟨rfl, rfl⟩) fun X q => by kernel_rfl
theorem i_place (C : Cx) (fd : Cell) (c : Nat) (a : Cell) (hx : x ∈ p.names) (hm : Mu4 (muS p x)) (hk : p.part ≤ 2) : Con C tab 60 f_place_formulas [.obj 630 1, .obj 463 8, sv x] (bas fd p c [a]) (.lst (inF p x (supL p x) ++ mulF p x (muS p x))) (bas fd p c [a]) := by
  refine p_all hx ?_ (place_pl p x (muS p x) (supL p x) 10)
  unfold supL
  cases h : ["C", "D"].contains x with
  | true =>
    have hs : supG p.part x = [] := by
      unfold supG
      rw [show (x == "E") = false from by cases e : x == "E" with
        | false => rfl
        | true => rw [eq_of_beq e] at h; exact nomatch h]
      rfl
    exact p_pA hx (by unfold parS; rw [h]; rfl) (p_s0 hx hm (by show 1 ≤ 5; decide) hs)
  | false =>
    refine p_p0 hx (by unfold parS; rw [h]; rfl) ?_
    show To2 _ _ _ (bas fd p c [a, .list (inF p x (supG p.part x) ++ mulF p x (muS p x))])
    cases e : x == "E" with
    | false =>
      have hs : supG p.part x = [] := by
        unfold supG
        rw [e]
        rfl
      rw [hs]
      exact p_s0 hx hm (by decide) hs
    | true =>
      have hs : supG p.part x = ["A", "B"].take p.part := by
        unfold supG
        rw [e]
        rfl
      generalize hq : p.part = k at hk hs
      match k, hk with
      | 0, _ => rw [hs]; exact p_s0 hx hm (by decide) (hq ▸ hs)
      | 1, _ => rw [hs]; exact p_s1 hx hm (by decide) (hq ▸ hs)
      | 2, _ => rw [hs]; exact p_s2 hx hm (by decide) (hq ▸ hs)
end
section
variable {C : Cx} {fd a : Cell} {p : Plan} {x y : String} {c : Nat} {τ : List Cell} {L : List V}
theorem ch_eq (hx : x ∈ p.names) : chS p x = strsV (cond (x == "A") (kidsL p.kids) []) := by
  have hn := name_cases hx
  unfold chS Plan.names
  generalize p.kids = k
  have he : (if 0 < p.part then ["E"] else []) = ["E"] ∨ (if 0 < p.part then ["E"] else []) = [] := by
    split
    · exact .inl rfl
    · exact .inr rfl
  generalize (if 0 < p.part then ["E"] else []) = e at he
  clear hx
  rcases he with rfl | rfl <;> rcases hn with rfl | rfl | rfl | rfl | rfl <;> (cases k with | zero => kernel_rfl | succ k => cases k <;> kernel_rfl)
theorem b_ch (C : Cx) (fd : Cell) (c : Nat) (τ : List Cell) (hx : x ∈ p.names) : Con C tab 60 m_Signatures_children [.obj 630 1, sv x] (bas fd p c τ) (.lst (strsV (cond (x == "A") (kidsL p.kids) []))) (bas fd p c τ) := ch_eq hx ▸ s_children (sAt fd p c τ) hx
theorem b_abs (C : Cx) (fd : Cell) (c : Nat) (τ : List Cell) (hx : x ∈ p.names) : Con C tab 20 m_Signatures_is_abstract [.obj 630 1, sv x] (bas fd p c τ) (.bool (x == "A" && p.ab)) (bas fd p c τ) := s_is_abstract (sAt fd p c τ) hx
theorem i_chA (C : Cx) (fd : Cell) (c : Nat) (a : Cell) : Con C tab 80 f_children_formulas [.obj 630 1, .obj 463 8, sv "A"] (bas fd p c [a]) (.lst (chF p)) (bas fd p c [a]) := by
  have hn : ∀ y ∈ kidsL p.kids, y ∈ p.names := fun y => kids_names
  have c1 := b_ch C fd c [a] (names_A p)
  have c2 := fun τ => b_abs C fd c τ (names_A p)
  unfold chF disF
  generalize hk : kidsL p.kids = ks at hn c1
  have hs : ks = [] ∨ ks = ["C"] ∨ ks = ["C", "D"] := by
    rw [← hk]
    match p.kids with
    | 0 => exact .inl rfl
    | 1 => exact .inr (.inl rfl)
    | k + 2 => exact .inr (.inr rfl)
  rcases hs with rfl | rfl | rfl
  · cases ha : p.ab with
    | true =>
      rw [ha] at c2
      exact con_of (q := [.c 28082 60 (.lst []), .c 32035 20 (.bool true)]) (fun _ e => ob c1 (ob (c2 [a, .list []]) e)) (by kernel_rfl)
    | false =>
      rw [ha] at c2
      exact con_of (q := [.c 28082 60 (.lst []), .c 32035 20 (.bool false)]) (fun _ e => ob c1 (ob (c2 [a, .list []]) e)) (by kernel_rfl)
  · cases ha : p.ab with
    | true =>
      rw [ha] at c2
      have hC := hn "C" (.head _)
      exact con_of (q := [.c 28082 60 (.lst [sv "C"]), .c 28045 20 (relE (p.num "C")), .c 32035 20 (.bool true), .c 33050 20 (relE (p.num "A"))]) (fun _ e => ob c1 (ob (b_rel C fd c [a] (names_nm (hC))) (ob (c2 [a, .list []]) (ob (b_rel C fd c [a, .list []] (names_nm (names_A p))) e)))) (by kernel_rfl)
    | false =>
      rw [ha] at c2
      have hC := hn "C" (.head _)
      exact con_of (q := [.c 28082 60 (.lst [sv "C"]), .c 28045 20 (relE (p.num "C")), .c 32035 20 (.bool false)]) (fun _ e => ob c1 (ob (b_rel C fd c [a] (names_nm (hC))) (ob (c2 [a, .list []]) e))) (by kernel_rfl)
  · cases ha : p.ab with
    | true =>
      rw [ha] at c2
      have hC := hn "C" (.head _)
      have hD := hn "D" (.tail _ (.head _))
      exact con_of (q := [.c 28082 60 (.lst [sv "C", sv "D"]), .c 28045 20 (relE (p.num "C")), .c 28045 20 (relE (p.num "D")), .c 32035 20 (.bool true), .c 33050 20 (relE (p.num "A"))]) (fun _ e => ob c1 (ob (b_rel C fd c [a] (names_nm (hC))) (ob (b_rel C fd c [a] (names_nm (hD))) (ob (c2 [a, .list [manyE "no" (meE (relE (p.num "C")) (relE (p.num "D")))]]) (ob (b_rel C fd c [a, .list [manyE "no" (meE (relE (p.num "C")) (relE (p.num "D")))]] (names_nm (names_A p))) e))))) (by kernel_rfl)
    | false =>
      rw [ha] at c2
      have hC := hn "C" (.head _)
      have hD := hn "D" (.tail _ (.head _))
      exact con_of (q := [.c 28082 60 (.lst [sv "C", sv "D"]), .c 28045 20 (relE (p.num "C")), .c 28045 20 (relE (p.num "D")), .c 32035 20 (.bool false)]) (fun _ e => ob c1 (ob (b_rel C fd c [a] (names_nm (hC))) (ob (b_rel C fd c [a] (names_nm (hD))) (ob (c2 [a, .list [manyE "no" (meE (relE (p.num "C")) (relE (p.num "D")))]]) e)))) (by kernel_rfl)
theorem i_ch (C : Cx) (fd : Cell) (c : Nat) (a : Cell) (hx : x ∈ p.names) : Con C tab 80 f_children_formulas [.obj 630 1, .obj 463 8, sv x] (bas fd p c [a]) (.lst (cond (x == "A") (chF p) [])) (bas fd p c [a]) := by
  cases h : x == "A" with
  | true => exact eq_of_beq h ▸ i_chA C fd c a
  | false =>
    have h1 := b_ch C fd c [a] hx
    have h2 := b_abs C fd c [a, .list []] hx
    rw [h] at h1 h2
    exact con_of (q := [.c 28082 60 (.lst []), .c 32035 20 (.bool false)]) (fun _ e => ob h1 (ob h2 e)) (by kernel_rfl)
end
section
variable {C : Cx} {fd a g b h : Cell} {p : Plan} {x : String} {c : Nat} {τ : List Cell} {w : V} {L : List String}
def upG (part : Nat) (x : String) : List String := cond (parS x == "") [] [parS x] ++ supG part x
theorem supG_len (hk : p.part ≤ 2) : (supG p.part x).length ≤ 2 := by
  unfold supG
  split
  · exact List.length_take_le' ..
  · decide
theorem b_dir (C : Cx) (fd : Cell) (c : Nat) (τ : List Cell) (hk : p.part ≤ 2) (hx : x ∈ p.names) : Con C tab 40 m_Signatures_direct [.obj 630 1, sv x] (bas fd p c τ) (.tup (strsV (upG p.part x))) (bas fd p c τ) := by
  have hp := b_par C fd c τ hx
  have r1 := b_sup C fd c τ hx
  have l := supG_len (x := x) hk
  unfold upG
  unfold parS at hp ⊢
  cases h : ["C", "D"].contains x with
  | false =>
    rw [h] at hp
    exact con_of (q := [.c 507057 20 (sv ""), .c 507092 20 (.tup (strsV (supG p.part x))), .v 507092 (.tup (strsV ([] ++ supG p.part x))), .v 0 (.tup (strsV ([] ++ supG p.part x)))]) (fun _ e => ob hp (ob r1 (ob (add_strsV (a := []) (bas fd p c τ) (Nat.le_trans (Nat.le_of_eq (Nat.zero_add _)) (Nat.le_trans l (by decide)))) (ob (fr_tup (σ := bas fd p c τ) (n := (bas fd p c τ).length) (pls_strs ([] ++ supG p.part x))) e)))) (by kernel_rfl)
  | true =>
    rw [h] at hp
    exact con_of (q := [.c 507057 20 (sv "A"), .c 507034 20 (sv "A"), .c 507092 20 (.tup (strsV (supG p.part x))), .v 507092 (.tup (strsV (["A"] ++ supG p.part x))), .v 0 (.tup (strsV (["A"] ++ supG p.part x)))]) (fun _ e => ob hp (ob hp (ob r1 (ob (add_strsV (a := ["A"]) (bas fd p c τ) (Nat.le_trans (Nat.add_le_add_left l 1) (by decide))) (ob (fr_tup (σ := bas fd p c τ) (n := (bas fd p c τ).length) (pls_strs (["A"] ++ supG p.part x))) e))))) (by kernel_rfl)
theorem up_cases (hk : p.part ≤ 2) : upG p.part x = [] ∨ upG p.part x = ["A"] ∨ upG p.part x = ["A", "B"] := by
  unfold upG parS
  cases h : ["C", "D"].contains x with
  | true =>
    have e : supG p.part x = [] := by
      unfold supG
      rw [show (x == "E") = false from by cases e : x == "E" with
        | false => rfl
        | true => rw [eq_of_beq e] at h; exact nomatch h]
      rfl
    rw [e]
    exact .inr (.inl rfl)
  | false =>
    show supG p.part x = [] ∨ supG p.part x = ["A"] ∨ supG p.part x = ["A", "B"]
    unfold supG
    split
    · generalize p.part = k at hk
      match k, hk with
      | 0, _ => exact .inl rfl
      | 1, _ => exact .inr (.inl rfl)
      | 2, _ => exact .inr (.inr rfl)
    · exact .inl rfl
theorem b_abv1 (C : Cx) (fd : Cell) (c : Nat) (hk : p.part ≤ 2) (hx : x ∈ p.names) : Con C tab 80 m_Signatures_all_above [.obj 630 1, sv x] (bas fd p c [a, g, h]) (.lst (strsV (upG p.part x))) (bas fd p c [a, g, h]) := by
  have r1 := fun τ => b_dir C fd c τ hk hx
  have r2 := fun τ => b_dir C fd c τ hk (names_A p)
  have r3 := fun τ => b_dir C fd c τ hk (names_B p)
  rcases up_cases (x := x) hk with hu | hu | hu
  · rw [hu] at r1 ⊢
    exact con_of (q := [.c 583052 40 (V.tup [])]) (fun _ e => (ob (r1 ([a, g, h, Cell.list []])) e)) (by kernel_rfl)
  · rw [hu] at r1 ⊢
    exact con_of (q := [.c 583052 40 (V.tup [sv "A"]), .c 588049 40 (V.tup [])]) (fun _ e => (ob (r1 ([a, g, h, Cell.list []])) (ob (r2 ([a, g, h, Cell.list [V.str (Str.ofString "A")], Cell.list []])) e))) (by kernel_rfl)
  · rw [hu] at r1 ⊢
    exact con_of (q := [.c 583052 40 (V.tup [sv "A", sv "B"]), .c 588049 40 (V.tup []), .c 588049 40 (V.tup [])]) (fun _ e => (ob (r1 ([a, g, h, Cell.list []])) (ob (r2 ([a, g, h, Cell.list [V.str (Str.ofString "A")], Cell.list [V.str (Str.ofString "B")]])) (ob (r3 ([a, g, h, Cell.list [V.str (Str.ofString "A"), V.str (Str.ofString "B")], Cell.list []])) e)))) (by kernel_rfl)
theorem b_abv2 (C : Cx) (fd : Cell) (c : Nat) (hk : p.part ≤ 2) (hx : x ∈ p.names) : Con C tab 80 m_Signatures_all_above [.obj 630 1, sv x] (bas fd p c [a, b, g, h]) (.lst (strsV (upG p.part x))) (bas fd p c [a, b, g, h]) := by
  have r1 := fun τ => b_dir C fd c τ hk hx
  have r2 := fun τ => b_dir C fd c τ hk (names_A p)
  have r3 := fun τ => b_dir C fd c τ hk (names_B p)
  rcases up_cases (x := x) hk with hu | hu | hu
  · rw [hu] at r1 ⊢
    exact con_of (q := [.c 583052 40 (V.tup [])]) (fun _ e => (ob (r1 ([a, b, g, h, Cell.list []])) e)) (by kernel_rfl)
  · rw [hu] at r1 ⊢
    exact con_of (q := [.c 583052 40 (V.tup [sv "A"]), .c 588049 40 (V.tup [])]) (fun _ e => (ob (r1 ([a, b, g, h, Cell.list []])) (ob (r2 ([a, b, g, h, Cell.list [V.str (Str.ofString "A")], Cell.list []])) e))) (by kernel_rfl)
  · rw [hu] at r1 ⊢
    exact con_of (q := [.c 583052 40 (V.tup [sv "A", sv "B"]), .c 588049 40 (V.tup []), .c 588049 40 (V.tup [])]) (fun _ e => (ob (r1 ([a, b, g, h, Cell.list []])) (ob (r2 ([a, b, g, h, Cell.list [V.str (Str.ofString "A")], Cell.list [V.str (Str.ofString "B")]])) (ob (r3 ([a, b, g, h, Cell.list [V.str (Str.ofString "A"), V.str (Str.ofString "B")], Cell.list []])) e)))) (by kernel_rfl)
end
abbrev fldE (p : Plan) (f : String) : V := .tup [sv f, sv p.owner, sv p.mult, nodeV p, .int 0, .int (if p.two then 0 else -1)]
abbrev thE (k : Nat) : V := joE (varE "this") (relE k)
section
variable {C : Cx} {fd a g b h : Cell} {p : Plan} {x y : String} {c : Nat} {τ : List Cell} {w : V} {L : List String} {LL : List V}
theorem obd {A B E : Prop} (h : A ∧ B) (e : E) : A ∧ (B ∧ E) := ⟨h.1, h.2, e⟩
theorem keep_app (lk : List Nat) (σ τ : List Cell) : Keep lk σ (σ ++ τ) := fun _ _ _ e => get_ext e
theorem b_flds (C : Cx) (fd : Cell) (c : Nat) (τ : List Cell) (lk : List Nat) (h : fldsV p = LL) : Con C tab 20 m_Signatures_fields [.obj 630 1] (bas fd p c τ) (.loc (bas fd p c τ).length) (bas fd p c (τ ++ [.list LL])) ∧ Keep lk (bas fd p c τ) (bas fd p c (τ ++ [.list LL])) :=
  ⟨h ▸ con_to (q := [.w 598036 (.loc (bas fd p c τ).length) (bas fd p c (τ ++ [.list (fldsV p)]))]) (fun _ e => ob (bt_list (σ := bas fd p c τ) (d := .loc 5) (l := fldsV p) rfl (by unfold fldsV fieldsG; rw [List.length_map]; exact Nat.le_trans (flds_len p).2 (by decide))) e) (by kernel_rfl), keep_app lk (bas fd p c τ) [.list LL]⟩
theorem b_orel (C : Cx) (fd : Cell) (c : Nat) (τ : List Cell) (hy : y ∈ p.nm) : Con C tab 20 m_Names_rel [.obj 463 8, sv y] (bas fd p c τ) (relE (p.num y)) (bas fd p c τ) := o_rel (oAt fd p c τ) hy
def envB (p : Plan) (b : Bool) : List (Str × V) := (S "this", varE "this") :: cond b (p.fields.map fun f => (S f, thE (p.fnum f))) []
theorem fields_cases (p : Plan) : p.fields = ["f"] ∨ p.fields = ["f", "g"] := by
  unfold Plan.fields
  split
  · exact .inr rfl
  · exact .inl rfl
theorem cat_s (a b : String) (l : (S a).length + (S b).length ≤ 10000) : catS (S a) (S b) = some (sv (a ++ b)) := by
  unfold catS
  rw [cat_lit, len_lit]
  rw [len_lit, len_lit, ← String.length_append] at l
  exact grd_of (Nat.ble_eq_true_of_le l)
theorem cat_0 (b : String) (l : (S b).length ≤ 10000) : catS Str.empty (S b) = some (sv b) := (cat_s "" b (Nat.le_trans (Nat.le_of_eq (Nat.zero_add _)) l)).trans (congrArg (fun x => some (sv x)) (String.empty_append ..))
theorem own_1 (p : Plan) : p.owner.length = 1 := by unfold Plan.owner; split <;> rfl
theorem in_lstS (s : List Cell) {x : String} {l : List String} {b : Bool} (h : l.contains x = b) : evCop .In (sv x) (.lst (strsV l)) s = some b := by
  show grd (V.pls 40 (strsV l) && true) _ = _
  rw [pls_strs]
  exact congrArg some ((strs_any x l).trans h)
theorem add_lstS (s : List Cell) {n : Nat} (e : getL s (.loc n) = some [sv x]) (l : L.length ≤ 1000) : evBop .Add (.loc n) (.lst (strsV L)) s = some (.lst (strsV (x :: L))) := by
  show (getL s (.loc n)).bind _ = _
  rw [e]
  exact grd_of (Nat.ble_eq_true_of_le (by rw [strs_len]; exact Nat.le_trans (Nat.add_le_add_left l 1) (by decide)))
theorem b_env1 (C : Cx) (fd : Cell) (c : Nat) (hk : p.part ≤ 2) (hx : x ∈ p.names) {t : Bool} (hb : (x :: upG p.part x).contains p.owner = t) : Con C tab 120 m_Names_this_env [.obj 463 8, sv x, varE "this"] (bas fd p c [a]) (.dct (envB p t)) (bas fd p c [a]) := by
  have ol := own_1 p
  have f1 := cat_0 p.owner (by rw [len_lit, ol]; decide)
  have f2 := cat_s p.owner "." (by rw [len_lit, ol]; decide)
  have l2 : (S (p.owner ++ ".")).length = 2 := by rw [len_lit, String.length_append, ol]; rfl
  have f3 := cat_s (p.owner ++ ".") "f" (by rw [l2]; decide)
  have f4 := cat_s (p.owner ++ ".") "g" (by rw [l2]; decide)
  have hf := fld_nm (f_mem p)
  have r0 := fun τ y (h : y ∈ p.nm) => b_orel C fd c τ h
  have up : (upG p.part x).length ≤ 1000 := by rcases up_cases (x := x) hk with h | h | h <;> rw [h] <;> decide
  have ad := add_lstS (x := x) (L := upG p.part x) (bas fd p c ([a] ++ [.dict [(S "this", varE "this")], .list [sv x]])) (n := 12) (by kernel_rfl) up
  have hi2 := in_lstS (bas fd p c [a]) hb
  have r2 := b_abv1 (C := C) (fd := fd) (c := c) (a := a) (g := .dict [(S "this", varE "this")]) (h := .list [sv x]) hk hx
  unfold envB
  rcases fields_cases p with h | h
  · have e : fldsV p = [fldE p "f"] := by unfold fldsV fieldsG; rw [h]; rfl
    have r1 := fun τ => b_flds C fd c τ (List.range 11) e
    have hg : "g" ∈ p.fields → p.owner ++ "." ++ "g" ∈ p.nm := fld_nm
    rw [h] at hg ⊢
    cases t with
    | true => exact con_of (q := [.c 156079 80 (V.lst (strsV (upG p.part x))), .v 156079 (V.lst (strsV (x :: upG p.part x))), .d 157045 20 (V.loc (List.length (bas fd p c [a, Cell.dict [(Str.ofString "this", V.tup [V.str (Str.ofString "var"), V.str (Str.ofString "this")])], Cell.list [sv x]]))) (bas fd p c ([a, Cell.dict [(Str.ofString "this", V.tup [V.str (Str.ofString "var"), V.str (Str.ofString "this")])], Cell.list [sv x]] ++ [Cell.list [fldE p "f"]])), .b 158032 (true), .v 159059 (sv (Plan.owner p)), .v 159060 (sv (Plan.owner p ++ ".")), .v 159070 (sv (Plan.owner p ++ "." ++ "f")), .c 159072 20 (relE (Plan.num p (Plan.owner p ++ "." ++ "f")))]) (fun _ e => (ob r2 (ob ad (obd (r1 ([a, Cell.dict [(Str.ofString "this", V.tup [V.str (Str.ofString "var"), V.str (Str.ofString "this")])], Cell.list [sv x]])) (ob hi2 (ob f1 (ob f2 (ob f3 (ob (r0 ([a, Cell.dict [(Str.ofString "this", V.tup [V.str (Str.ofString "var"), V.str (Str.ofString "this")])], Cell.list [sv x], Cell.list [fldE p "f"]]) (Plan.owner p ++ "." ++ "f") (hf)) e))))))))) (by kernel_rfl)
    | false => exact con_of (q := [.c 156079 80 (V.lst (strsV (upG p.part x))), .v 156079 (V.lst (strsV (x :: upG p.part x))), .d 157045 20 (V.loc (List.length (bas fd p c [a, Cell.dict [(Str.ofString "this", V.tup [V.str (Str.ofString "var"), V.str (Str.ofString "this")])], Cell.list [sv x]]))) (bas fd p c ([a, Cell.dict [(Str.ofString "this", V.tup [V.str (Str.ofString "var"), V.str (Str.ofString "this")])], Cell.list [sv x]] ++ [Cell.list [fldE p "f"]])), .b 158032 (false)]) (fun _ e => (ob r2 (ob ad (obd (r1 ([a, Cell.dict [(Str.ofString "this", V.tup [V.str (Str.ofString "var"), V.str (Str.ofString "this")])], Cell.list [sv x]])) (ob hi2 e))))) (by kernel_rfl)
  · have e : fldsV p = [fldE p "f", fldE p "g"] := by unfold fldsV fieldsG; rw [h]; rfl
    have r1 := fun τ => b_flds C fd c τ (List.range 11) e
    have hg : "g" ∈ p.fields → p.owner ++ "." ++ "g" ∈ p.nm := fld_nm
    rw [h] at hg ⊢
    replace hg := hg (.tail _ (.head _))
    cases t with
    | true => exact con_of (q := [.c 156079 80 (V.lst (strsV (upG p.part x))), .v 156079 (V.lst (strsV (x :: upG p.part x))), .d 157045 20 (V.loc (List.length (bas fd p c [a, Cell.dict [(Str.ofString "this", V.tup [V.str (Str.ofString "var"), V.str (Str.ofString "this")])], Cell.list [sv x]]))) (bas fd p c ([a, Cell.dict [(Str.ofString "this", V.tup [V.str (Str.ofString "var"), V.str (Str.ofString "this")])], Cell.list [sv x]] ++ [Cell.list [fldE p "f", fldE p "g"]])), .b 158032 (true), .v 159059 (sv (Plan.owner p)), .v 159060 (sv (Plan.owner p ++ ".")), .v 159070 (sv (Plan.owner p ++ "." ++ "f")), .c 159072 20 (relE (Plan.num p (Plan.owner p ++ "." ++ "f"))), .b 158032 (true), .v 159059 (sv (Plan.owner p)), .v 159060 (sv (Plan.owner p ++ ".")), .v 159070 (sv (Plan.owner p ++ "." ++ "g")), .c 159072 20 (relE (Plan.num p (Plan.owner p ++ "." ++ "g")))]) (fun _ e => (ob r2 (ob ad (obd (r1 ([a, Cell.dict [(Str.ofString "this", V.tup [V.str (Str.ofString "var"), V.str (Str.ofString "this")])], Cell.list [sv x]])) (ob hi2 (ob f1 (ob f2 (ob f3 (ob (r0 ([a, Cell.dict [(Str.ofString "this", V.tup [V.str (Str.ofString "var"), V.str (Str.ofString "this")])], Cell.list [sv x], Cell.list [fldE p "f", fldE p "g"]]) (Plan.owner p ++ "." ++ "f") (hf)) (ob hi2 (ob f1 (ob f2 (ob f4 (ob (r0 ([a, Cell.dict (fputK [(Str.ofString "this", V.tup [V.str (Str.ofString "var"), V.str (Str.ofString "this")])] (Str.ofString "f") (V.tup [V.str (Str.ofString "join"), varE "this", relE (Plan.num p (Plan.owner p ++ "." ++ "f"))])), Cell.list [sv x], Cell.list [fldE p "f", fldE p "g"]]) (Plan.owner p ++ "." ++ "g") (hg)) e)))))))))))))) (by kernel_rfl)
    | false => exact con_of (q := [.c 156079 80 (V.lst (strsV (upG p.part x))), .v 156079 (V.lst (strsV (x :: upG p.part x))), .d 157045 20 (V.loc (List.length (bas fd p c [a, Cell.dict [(Str.ofString "this", V.tup [V.str (Str.ofString "var"), V.str (Str.ofString "this")])], Cell.list [sv x]]))) (bas fd p c ([a, Cell.dict [(Str.ofString "this", V.tup [V.str (Str.ofString "var"), V.str (Str.ofString "this")])], Cell.list [sv x]] ++ [Cell.list [fldE p "f", fldE p "g"]])), .b 158032 (false), .b 158032 (false)]) (fun _ e => (ob r2 (ob ad (obd (r1 ([a, Cell.dict [(Str.ofString "this", V.tup [V.str (Str.ofString "var"), V.str (Str.ofString "this")])], Cell.list [sv x]])) (ob hi2 (ob hi2 e)))))) (by kernel_rfl)
theorem b_env2 (C : Cx) (fd : Cell) (c : Nat) (hk : p.part ≤ 2) (hx : x ∈ p.names) {t : Bool} (hb : (x :: upG p.part x).contains p.owner = t) : Con C tab 120 m_Names_this_env [.obj 463 8, sv x, varE "this"] (bas fd p c [a, b]) (.dct (envB p t)) (bas fd p c [a, b]) := by
  have ol := own_1 p
  have f1 := cat_0 p.owner (by rw [len_lit, ol]; decide)
  have f2 := cat_s p.owner "." (by rw [len_lit, ol]; decide)
  have l2 : (S (p.owner ++ ".")).length = 2 := by rw [len_lit, String.length_append, ol]; rfl
  have f3 := cat_s (p.owner ++ ".") "f" (by rw [l2]; decide)
  have f4 := cat_s (p.owner ++ ".") "g" (by rw [l2]; decide)
  have hf := fld_nm (f_mem p)
  have r0 := fun τ y (h : y ∈ p.nm) => b_orel C fd c τ h
  have up : (upG p.part x).length ≤ 1000 := by rcases up_cases (x := x) hk with h | h | h <;> rw [h] <;> decide
  have ad := add_lstS (x := x) (L := upG p.part x) (bas fd p c ([a, b] ++ [.dict [(S "this", varE "this")], .list [sv x]])) (n := 13) (by kernel_rfl) up
  have hi2 := in_lstS (bas fd p c [a, b]) hb
  have r2 := b_abv2 (C := C) (fd := fd) (c := c) (a := a) (g := .dict [(S "this", varE "this")]) (h := .list [sv x]) (b := b) hk hx
  unfold envB
  rcases fields_cases p with h | h
  · have e : fldsV p = [fldE p "f"] := by unfold fldsV fieldsG; rw [h]; rfl
    have r1 := fun τ => b_flds C fd c τ (List.range 12) e
    have hg : "g" ∈ p.fields → p.owner ++ "." ++ "g" ∈ p.nm := fld_nm
    rw [h] at hg ⊢
    cases t with
    | true => exact con_of (q := [.c 156079 80 (V.lst (strsV (upG p.part x))), .v 156079 (V.lst (strsV (x :: upG p.part x))), .d 157045 20 (V.loc (List.length (bas fd p c [a, b, Cell.dict [(Str.ofString "this", V.tup [V.str (Str.ofString "var"), V.str (Str.ofString "this")])], Cell.list [sv x]]))) (bas fd p c ([a, b, Cell.dict [(Str.ofString "this", V.tup [V.str (Str.ofString "var"), V.str (Str.ofString "this")])], Cell.list [sv x]] ++ [Cell.list [fldE p "f"]])), .b 158032 (true), .v 159059 (sv (Plan.owner p)), .v 159060 (sv (Plan.owner p ++ ".")), .v 159070 (sv (Plan.owner p ++ "." ++ "f")), .c 159072 20 (relE (Plan.num p (Plan.owner p ++ "." ++ "f")))]) (fun _ e => (ob r2 (ob ad (obd (r1 ([a, b, Cell.dict [(Str.ofString "this", V.tup [V.str (Str.ofString "var"), V.str (Str.ofString "this")])], Cell.list [sv x]])) (ob hi2 (ob f1 (ob f2 (ob f3 (ob (r0 ([a, b, Cell.dict [(Str.ofString "this", V.tup [V.str (Str.ofString "var"), V.str (Str.ofString "this")])], Cell.list [sv x], Cell.list [fldE p "f"]]) (Plan.owner p ++ "." ++ "f") (hf)) e))))))))) (by kernel_rfl)
    | false => exact con_of (q := [.c 156079 80 (V.lst (strsV (upG p.part x))), .v 156079 (V.lst (strsV (x :: upG p.part x))), .d 157045 20 (V.loc (List.length (bas fd p c [a, b, Cell.dict [(Str.ofString "this", V.tup [V.str (Str.ofString "var"), V.str (Str.ofString "this")])], Cell.list [sv x]]))) (bas fd p c ([a, b, Cell.dict [(Str.ofString "this", V.tup [V.str (Str.ofString "var"), V.str (Str.ofString "this")])], Cell.list [sv x]] ++ [Cell.list [fldE p "f"]])), .b 158032 (false)]) (fun _ e => (ob r2 (ob ad (obd (r1 ([a, b, Cell.dict [(Str.ofString "this", V.tup [V.str (Str.ofString "var"), V.str (Str.ofString "this")])], Cell.list [sv x]])) (ob hi2 e))))) (by kernel_rfl)
  · have e : fldsV p = [fldE p "f", fldE p "g"] := by unfold fldsV fieldsG; rw [h]; rfl
    have r1 := fun τ => b_flds C fd c τ (List.range 12) e
    have hg : "g" ∈ p.fields → p.owner ++ "." ++ "g" ∈ p.nm := fld_nm
    rw [h] at hg ⊢
    replace hg := hg (.tail _ (.head _))
    cases t with
    | true => exact con_of (q := [.c 156079 80 (V.lst (strsV (upG p.part x))), .v 156079 (V.lst (strsV (x :: upG p.part x))), .d 157045 20 (V.loc (List.length (bas fd p c [a, b, Cell.dict [(Str.ofString "this", V.tup [V.str (Str.ofString "var"), V.str (Str.ofString "this")])], Cell.list [sv x]]))) (bas fd p c ([a, b, Cell.dict [(Str.ofString "this", V.tup [V.str (Str.ofString "var"), V.str (Str.ofString "this")])], Cell.list [sv x]] ++ [Cell.list [fldE p "f", fldE p "g"]])), .b 158032 (true), .v 159059 (sv (Plan.owner p)), .v 159060 (sv (Plan.owner p ++ ".")), .v 159070 (sv (Plan.owner p ++ "." ++ "f")), .c 159072 20 (relE (Plan.num p (Plan.owner p ++ "." ++ "f"))), .b 158032 (true), .v 159059 (sv (Plan.owner p)), .v 159060 (sv (Plan.owner p ++ ".")), .v 159070 (sv (Plan.owner p ++ "." ++ "g")), .c 159072 20 (relE (Plan.num p (Plan.owner p ++ "." ++ "g")))]) (fun _ e => (ob r2 (ob ad (obd (r1 ([a, b, Cell.dict [(Str.ofString "this", V.tup [V.str (Str.ofString "var"), V.str (Str.ofString "this")])], Cell.list [sv x]])) (ob hi2 (ob f1 (ob f2 (ob f3 (ob (r0 ([a, b, Cell.dict [(Str.ofString "this", V.tup [V.str (Str.ofString "var"), V.str (Str.ofString "this")])], Cell.list [sv x], Cell.list [fldE p "f", fldE p "g"]]) (Plan.owner p ++ "." ++ "f") (hf)) (ob hi2 (ob f1 (ob f2 (ob f4 (ob (r0 ([a, b, Cell.dict (fputK [(Str.ofString "this", V.tup [V.str (Str.ofString "var"), V.str (Str.ofString "this")])] (Str.ofString "f") (V.tup [V.str (Str.ofString "join"), varE "this", relE (Plan.num p (Plan.owner p ++ "." ++ "f"))])), Cell.list [sv x], Cell.list [fldE p "f", fldE p "g"]]) (Plan.owner p ++ "." ++ "g") (hg)) e)))))))))))))) (by kernel_rfl)
    | false => exact con_of (q := [.c 156079 80 (V.lst (strsV (upG p.part x))), .v 156079 (V.lst (strsV (x :: upG p.part x))), .d 157045 20 (V.loc (List.length (bas fd p c [a, b, Cell.dict [(Str.ofString "this", V.tup [V.str (Str.ofString "var"), V.str (Str.ofString "this")])], Cell.list [sv x]]))) (bas fd p c ([a, b, Cell.dict [(Str.ofString "this", V.tup [V.str (Str.ofString "var"), V.str (Str.ofString "this")])], Cell.list [sv x]] ++ [Cell.list [fldE p "f", fldE p "g"]])), .b 158032 (false), .b 158032 (false)]) (fun _ e => (ob r2 (ob ad (obd (r1 ([a, b, Cell.dict [(Str.ofString "this", V.tup [V.str (Str.ofString "var"), V.str (Str.ofString "this")])], Cell.list [sv x]])) (ob hi2 (ob hi2 e)))))) (by kernel_rfl)
end
section
variable {C : Cx} {fd a g b h : Cell} {p : Plan} {x y fa : String} {c : Nat} {τ : List Cell} {w : V} {kvs : List (Str × V)} {k : Nat} {LL : List V} {l r : String}
theorem in_dct (s : List Cell) {o : Option V} (h : lkp kvs (S y) = o) : evCop .In (sv y) (.dct kvs) s = some o.isSome := congrArg (fun o : Option V => some o.isSome) h
theorem notin_dct (s : List Cell) {o : Option V} (h : lkp kvs (S y) = o) : evCop .NotIn (sv y) (.dct kvs) s = some (!o.isSome) := congrArg (fun o : Option V => some (!o.isSome)) h
theorem b_has (C : Cx) (fd : Cell) (c : Nat) (τ : List Cell) (hy : y ∈ p.names) : Con C tab 20 m_Signatures_has [.obj 630 1, sv y] (bas fd p c τ) (.bool true) (bas fd p c τ) := s_has (sAt fd p c τ) hy
theorem b_exp1 (C : Cx) (fd : Cell) (c : Nat) (τ : List Cell) (he : lkp kvs (S y) = none) (hy : y ∈ p.names) : Con C tab 60 m_Opener_expr [.obj 463 8, nameE y, .dct kvs] (bas fd p c τ) (relE (p.num y)) (bas fd p c τ) := by
  have hn := in_dct (bas fd p c τ) he
  have hn2 := notin_dct (bas fd p c τ) he
  have hm := names_nm hy
  have r0 := fun τ y (h : y ∈ p.nm) => b_orel C fd c τ h
  have r1 := fun τ y (h : y ∈ p.names) => b_has C fd c τ h
  exact con_of (q := [.b 338042 false, .b 223051 true, .c 124036 20 (V.bool true), .c 134036 20 (V.bool true), .c 135033 20 (relE (Plan.num p y))]) (fun _ e => (ob hn (ob hn2 (ob (r1 (τ) (y) (hy)) (ob (r1 (τ) (y) (hy)) (ob (r0 (τ) (y) (hm)) e)))))) (by kernel_rfl)
theorem b_expv (C : Cx) (fd : Cell) (p : Plan) (c : Nat) (τ : List Cell) (he : lkp kvs (S y) = some (thE k)) : Con C tab 60 m_Opener_expr [.obj 463 8, nameE y, .dct kvs] (bas fd p c τ) (thE k) (bas fd p c τ) := by
  have hn := in_dct (bas fd p c τ) he
  have hx := ixd_of (σ := bas fd p c τ) he
  exact con_of (q := [.b 338042 true, .v 339043 (thE k)]) (fun _ e => (ob hn (ob hx e))) (by kernel_rfl)
theorem b_truth (C : Cx) (fd : Cell) (p : Plan) (c : Nat) (τ : List Cell) (he : lkp kvs (S "f") = some (thE k)) (hf : fa = "some" ∨ fa = "no") : Con C tab 80 m_Opener_truth [.obj 463 8, .tup [sv "un", .int 0, sv fa, nameE "f"], .dct kvs] (bas fd p c τ) (manyE fa (thE k)) (bas fd p c τ) := by
  have e1 := fun τ => b_expv C fd p c τ he
  rcases hf with rfl | rfl
  · exact con_of (q := [.c 252052 60 (thE k)]) (fun _ e => (ob (e1 (τ)) e)) (by kernel_rfl)
  · exact con_of (q := [.c 252052 60 (thE k)]) (fun _ e => (ob (e1 (τ)) e)) (by kernel_rfl)
theorem b_exp2 (C : Cx) (fd : Cell) (p : Plan) (c : Nat) (τ : List Cell) (ha : lkp kvs (S "A") = none) (hb : lkp kvs (S "B") = none) : Con C tab 80 m_Opener_expr [.obj 463 8, .tup [sv "bin", .int 0, sv "+", nameE "A", nameE "B"], .dct kvs] (bas fd p c τ) (unE (relE (p.num "A")) (relE (p.num "B"))) (bas fd p c τ) :=
  con_of (q := [.c 352059 60 (relE (p.num "A")), .c 352084 60 (relE (p.num "B"))]) (fun _ e => ob (b_exp1 C fd c τ ha (names_A p)) (ob (b_exp1 C fd c τ hb (names_B p)) e)) (by kernel_rfl)
theorem b_exp3 (C : Cx) (fd : Cell) (p : Plan) (c : Nat) (τ : List Cell) (ha : lkp kvs (S "A") = none) (hb : lkp kvs (S "B") = none) : Con C tab 80 m_Opener_expr [.obj 463 8, .tup [sv "arrow", .int 0, sv l, sv r, nameE "B", nameE "A"], .dct kvs] (bas fd p c τ) (prE (relE (p.num "B")) (relE (p.num "A"))) (bas fd p c τ) :=
  con_of (q := [.c 330054 60 (relE (p.num "B")), .c 330079 60 (relE (p.num "A"))]) (fun _ e => ob (b_exp1 C fd c τ hb (names_B p)) (ob (b_exp1 C fd c τ ha (names_A p)) e)) (by kernel_rfl)
theorem b_ord (C : Cx) (fd : Cell) (p : Plan) (c : Nat) (τ : List Cell) : Con C tab 20 m_Signatures_orders [.obj 630 1] (bas fd p c τ) (.lst []) (bas fd p c τ) :=
  con_of (q := [.v 0 (.lst [])]) (fun _ e => ob (fr_new (σ := bas fd p c τ) (l := []) rfl) e) (by kernel_rfl)
theorem b_fresh (C : Cx) (fd : Cell) (p : Plan) (τ : List Cell) (hc : c ≤ 3) : Con C tab 40 m_Names_fresh [.obj 463 8, sv "each"] (bas fd p c τ) (sv (eachN (c + 1))) (bas fd p (c + 1) τ) := by
  match c, hc with
  | 0, _ => exact con_to (q := []) (fun _ e => e) (by kernel_rfl)
  | 1, _ => exact con_to (q := []) (fun _ e => e) (by kernel_rfl)
  | 2, _ => exact con_to (q := []) (fun _ e => e) (by kernel_rfl)
  | 3, _ => exact con_to (q := []) (fun _ e => e) (by kernel_rfl)
theorem keep_bas (lk : List Nat) (h : 8 ∉ lk) (fd : Cell) (p : Plan) (c c' : Nat) (τ : List Cell) : Keep lk (bas fd p c τ) (bas fd p c' τ) := fun n m x e => by
  by_cases q : n = 8
  · exact absurd (q ▸ m) h
  · exact ((List.getElem?_set_ne (l := bas fd p c τ) (i := 8) (a := .dict (opL .none (.lst (itemsL p)) c')) (fun z => q z.symm)).symm ▸ e : ((bas fd p c τ).set 8 (.dict (opL .none (.lst (itemsL p)) c')))[n]? = some x)
theorem op_low (p : Plan) (c m : Nat) : plks (m + 10) (opL .none (.lst (itemsL p)) c) = true := by
  show (true && (true && (V.pls 29 (itemsL p) && (true && (true && (true && true)))))) = true
  rw [show V.pls 29 (itemsL p) = true from pls_map (fun x => item_pl 9) _]
  rfl
end
abbrev eaV (y : String) (p : Plan) (c : Nat) : V := .tup [.tup [.tup [sv (eachN (c + 1)), relE (p.num y)]], .lst [varE (eachN (c + 1))], .none]
abbrev arrN (l r : String) : V := .tup [sv "arrow", .int 0, sv l, sv r, nameE "B", nameE "A"]
abbrev rgtE (p : Plan) (r : String) (k : Nat) (s : String) : V := allE s (relE (p.num "B")) (manyE r (joE (varE s) (thE k)))
abbrev lftE (p : Plan) (l : String) (k : Nat) (s : String) : V := allE s (relE (p.num "A")) (manyE l (joE (thE k) (varE s)))
section
variable {C : Cx} {fd a g b h : Cell} {p : Plan} {x y fa : String} {c : Nat} {τ : List Cell} {w : V} {kvs : List (Str × V)} {k : Nat} {LL : List V} {l r : String}
theorem num_ne {f : String} (hy : y ∈ p.names) (hf : f ∈ p.fields) : ((p.num (p.owner ++ "." ++ f) : Int) == (p.num y : Int)) = false :=
  beq_eq_false_iff_ne.mpr fun e => by
    have e := Int.ofNat.inj e
    have g : ∀ {z}, z ∈ p.nm → p.nm[p.num z]? = some z := fun {z} m => by
      have l : p.num z < p.nm.length := List.findIdx_lt_length_of_exists ⟨z, m, beq_self_eq_true z⟩
      rw [List.getElem?_eq_getElem l]
      exact congrArg some (eq_of_beq (List.findIdx_getElem (xs := p.nm) (p := (· == z)) (w := l)))
    have e2 := Option.some.inj ((g (fld_nm hf)).symm.trans (e ▸ g (names_nm hy)))
    have e3 := congrArg String.length e2
    rw [String.length_append, String.length_append, own_1] at e3
    have l1 : y.length = 1 := by rcases name_cases hy with rfl | rfl | rfl | rfl | rfl <;> rfl
    rw [l1] at e3
    exact absurd e3 (Nat.ne_of_gt (Nat.lt_of_lt_of_le (by decide : 1 < 1 + ".".length) (Nat.le_add_right ..)))
theorem i7 (fd : Cell) (c : Nat) (τ : List Cell) (hy : y ∈ p.nm) : evIdx (.loc 7) (sv y) (bas fd p c τ) = some (.int (p.num y)) := ix_of (σ := bas fd p c τ) (ds := numsL p) rfl (lkp_nums hy)
theorem b_ar1 (C : Cx) (fd : Cell) (c : Nat) (τ : List Cell) (hy : y ∈ p.names) : Con C tab 60 m_Names_arity [.obj 463 8, relE (p.num y)] (bas fd p c τ) (.int 1) (bas fd p c τ) := by
  have ol := own_1 p
  have f1 := cat_0 p.owner (by rw [len_lit, ol]; decide)
  have f2 := cat_s p.owner "." (by rw [len_lit, ol]; decide)
  have l2 : (S (p.owner ++ ".")).length = 2 := by rw [len_lit, String.length_append, ol]; rfl
  have f3 := cat_s (p.owner ++ ".") "f" (by rw [l2]; decide)
  have f4 := cat_s (p.owner ++ ".") "g" (by rw [l2]; decide)
  have r2 := fun τ => b_ord C fd p c τ
  have q1 := num_ne hy (f_mem p)
  rcases fields_cases p with h | h
  · have e : fldsV p = [fldE p "f"] := by unfold fldsV fieldsG; rw [h]; rfl
    have r1 := fun τ => b_flds C fd c τ (List.range (bas fd p c τ).length) e
    have gl := gl_of (get_new (σ := bas fd p c τ) (c := .list [fldE p "f"]))
    have i1 := i7 fd c (τ ++ [.list [fldE p "f"]]) (fld_nm (f_mem p))
    exact con_of (q := [.d 180045 20 (V.loc (List.length (bas fd p c τ))) (bas fd p c (τ ++ [Cell.list [fldE p "f"]])), .l 180045 ([fldE p "f"]), .v 181040 (sv (Plan.owner p)), .v 181041 (sv (Plan.owner p ++ ".")), .v 181051 (sv (Plan.owner p ++ "." ++ "f")), .v 181053 (V.int ↑(Plan.num p (Plan.owner p ++ "." ++ "f"))), .b 181058 false, .c 183098 20 (V.lst [])]) (fun _ e => (obd (r1 (τ)) (ob gl (ob f1 (ob f2 (ob f3 (ob i1 (ob (congrArg some q1) (ob (r2 (τ ++ [Cell.list [V.tup [V.str (Str.ofString "f"), V.str (Str.ofString (Plan.owner p)), V.str (Str.ofString p.mult), nodeV p, V.int 0, V.int (if p.two = true then 0 else -1)]]])) e))))))))) (by kernel_rfl)
  · have e : fldsV p = [fldE p "f", fldE p "g"] := by unfold fldsV fieldsG; rw [h]; rfl
    have r1 := fun τ => b_flds C fd c τ (List.range (bas fd p c τ).length) e
    have gl := gl_of (get_new (σ := bas fd p c τ) (c := .list [fldE p "f", fldE p "g"]))
    have i1 := i7 fd c (τ ++ [.list [fldE p "f", fldE p "g"]]) (fld_nm (f_mem p))
    have hg : "g" ∈ p.fields := h ▸ .tail _ (.head _)
    have i2 := i7 fd c (τ ++ [.list [fldE p "f", fldE p "g"]]) (fld_nm hg)
    have q2 := num_ne hy hg
    exact con_of (q := [.d 180045 20 (V.loc (List.length (bas fd p c τ))) (bas fd p c (τ ++ [Cell.list [fldE p "f", fldE p "g"]])), .l 180045 ([fldE p "f", fldE p "g"]), .v 181040 (sv (Plan.owner p)), .v 181041 (sv (Plan.owner p ++ ".")), .v 181051 (sv (Plan.owner p ++ "." ++ "f")), .v 181053 (V.int ↑(Plan.num p (Plan.owner p ++ "." ++ "f"))), .b 181058 false, .v 181040 (sv (Plan.owner p)), .v 181041 (sv (Plan.owner p ++ ".")), .v 181051 (sv (Plan.owner p ++ "." ++ "g")), .v 181053 (V.int ↑(Plan.num p (Plan.owner p ++ "." ++ "g"))), .b 181058 false, .c 183098 20 (V.lst [])]) (fun _ e => (obd (r1 (τ)) (ob gl (ob f1 (ob f2 (ob f3 (ob i1 (ob (congrArg some q1) (ob f1 (ob f2 (ob f4 (ob i2 (ob (congrArg some q2) (ob (r2 (τ ++ [Cell.list [V.tup [V.str (Str.ofString "f"), V.str (Str.ofString (Plan.owner p)), V.str (Str.ofString p.mult), nodeV p, V.int 0, V.int (if p.two = true then 0 else -1)], V.tup [V.str (Str.ofString "g"), V.str (Str.ofString (Plan.owner p)), V.str (Str.ofString p.mult), nodeV p, V.int 0, V.int (if p.two = true then 0 else -1)]]])) e)))))))))))))) (by kernel_rfl)
theorem b_ar2 (C : Cx) (fd : Cell) (p : Plan) (c : Nat) (τ : List Cell) : Con C tab 80 m_Names_arity [.obj 463 8, unE (relE (p.num "A")) (relE (p.num "B"))] (bas fd p c τ) (.int 1) (bas fd p c τ) := by
  have r1 := fun τ y (h : y ∈ p.names) => b_ar1 C fd c τ h
  have nA := names_A p
  exact con_of (q := [.c 177078 60 (V.int 1)]) (fun _ e => (ob (r1 (τ) ("A") (nA)) e)) (by kernel_rfl)
theorem lk8 (n : Nat) : 8 ∉ (List.range n).filter (· != 8) := fun m => absurd (List.mem_filter.mp m).2 (by decide)
theorem b_each (C : Cx) (fd : Cell) (τ : List Cell) (hc : c ≤ 3) (hy : y ∈ p.names) : Con C tab 80 m_Opener_each_of [.obj 463 8, relE (p.num y)] (bas fd p c τ) (eaV y p c) (bas fd p (c + 1) τ) := by
  have op := op_low p (c + 1) τ.length
  have r1 := fun τ y (h : y ∈ p.names) => b_ar1 C fd c τ h
  have r2 := fun τ => (⟨b_fresh C fd p τ hc, keep_bas _ (lk8 (bas fd p c τ).length) fd p c (c + 1) τ⟩ : Con C tab 40 m_Names_fresh [.obj 463 8, sv "each"] (bas fd p c τ) (sv (eachN (c + 1))) (bas fd p (c + 1) τ) ∧ Keep _ _ _)
  exact con_to (q := [.c 435031 60 (V.int 1), .d 436035 40 (sv (eachN (c + 1))) (bas fd p (c + 1) τ)]) (fun _ e => (ob (r1 (τ) (y) (hy)) (obd (r2 (τ)) (chk_of op e)))) (by kernel_rfl)
theorem mk_in (s : List Cell) (m : String) {b : Bool} (h : marked m = b) : evCop .NotIn (sv m) (.tup [sv "", sv "set"]) s = some b := by
  rw [← h]
  exact congrArg (fun o : Option Bool => o.map (!·)) (in_strs s (x := m) (l := ["", "set"]) rfl)
theorem b_sideR (C : Cx) (fd : Cell) (p : Plan) (c : Nat) (a b g h : Cell) (hm : marked l = true) (x : String) (k : Nat) (y : String) (kvs : List (Str × V)) : Con C tab 60 m_Opener_side [.obj 463 8, joE (varE x) (thE k), sv l, nameE y, .dct kvs] (bas fd p c [a, b, g, h]) (manyE l (joE (varE x) (thE k))) (bas fd p c [a, b, g, h]) := by
  have m := mk_in (bas fd p c [a, b, g, h]) l hm
  have op := op_low p c 4
  exact con_of (q := [.b 431058 true]) (fun _ e => (ob m (chk_of op e))) (by kernel_rfl)
theorem b_sideL (C : Cx) (fd : Cell) (p : Plan) (c : Nat) (a b g h : Cell) (hm : marked l = true) (x : String) (k : Nat) (y : String) (kvs : List (Str × V)) : Con C tab 60 m_Opener_side [.obj 463 8, joE (thE k) (varE x), sv l, nameE y, .dct kvs] (bas fd p c [a, b, g, h]) (manyE l (joE (thE k) (varE x))) (bas fd p c [a, b, g, h]) := by
  have m := mk_in (bas fd p c [a, b, g, h]) l hm
  have op := op_low p c 4
  exact con_of (q := [.b 431058 true]) (fun _ e => (ob m (chk_of op e))) (by kernel_rfl)
theorem b_mk11 (C : Cx) (fd : Cell) (p : Plan) (a b g : Cell) (k : Nat) (hc : c ≤ 2) (hA : lkp kvs (S "A") = none) (hB : lkp kvs (S "B") = none) (hr : marked r = true) (hl : marked l = true) : Con C tab 120 m_Opener_marked [.obj 463 8, thE k, arrN l r, .dct kvs] (bas fd p c [a, b, g]) (.lst [rgtE p r k (eachN (c + 1)), lftE p l k (eachN (c + 1 + 1))]) (bas fd p (c + 1 + 1) [a, b, g]) := by
  have oA := fun c τ => b_exp1 C fd c τ hA (names_A p)
  have oB := fun c τ => b_exp1 C fd c τ hB (names_B p)
  have nA := names_A p
  have nB := names_B p
  have mr := mk_in (bas fd p c [a, b, g]) r hr
  have ml := mk_in (bas fd p c [a, b, g]) l hl
  have op := op_low p (c + 1 + 1) 3
  exact con_to (q := [.c 415053 60 (relE (Plan.num p "B")), .c 415078 60 (relE (Plan.num p "A")), .b 416037 true, .d 417050 80 (eaV "B" p c) (bas fd p (c + 1) [a, b, g, Cell.list []]), .c 421097 60 (manyE r (joE (varE (eachN (c + 1))) (thE k))), .b 422037 true, .d 423051 80 (eaV "A" p (c + 1)) (bas fd p (c + 1 + 1) [a, b, g, Cell.list [V.tup [V.str (Str.ofString "all"), V.tup [V.tup [V.str (Str.ofString (eachN (c + 1))), relE (Plan.num p "B")]], V.tup [V.str (Str.ofString r), V.tup [sv "join", varE (eachN (c + 1)), thE k]]]]]), .c 427097 60 (manyE l (joE (thE k) (varE (eachN (c + 1 + 1)))))]) (fun _ e => (ob (oB (c) ([a, b, g])) (ob (oA (c) ([a, b, g])) (ob mr (obd (⟨b_each C fd [a, b, g, Cell.list []] (Nat.le_trans hc (by decide)) nB, keep_bas _ (by decide) fd p _ _ _⟩ : Con C tab 80 m_Opener_each_of [.obj 463 8, relE (p.num "B")] (bas fd p (c) [a, b, g, Cell.list []]) (eaV "B" p (c)) (bas fd p (c + 1) [a, b, g, Cell.list []]) ∧ Keep [0, 1, 2, 3, 4, 5, 6, 7, 9, 10, 11, 12] (bas fd p (c) [a, b, g, Cell.list []]) (bas fd p (c + 1) [a, b, g, Cell.list []])) (ob (b_sideR C fd p (c + 1) a b g (Cell.list []) hr (eachN (c + 1)) k "A" kvs) (ob ml (obd (⟨b_each C fd [a, b, g, Cell.list [V.tup [V.str (Str.ofString "all"), V.tup [V.tup [V.str (Str.ofString (eachN (c + 1))), relE (Plan.num p "B")]], V.tup [V.str (Str.ofString r), V.tup [sv "join", varE (eachN (c + 1)), thE k]]]]] (Nat.succ_le_succ hc) nA, keep_bas _ (by decide) fd p _ _ _⟩ : Con C tab 80 m_Opener_each_of [.obj 463 8, relE (p.num "A")] (bas fd p (c + 1) [a, b, g, Cell.list [V.tup [V.str (Str.ofString "all"), V.tup [V.tup [V.str (Str.ofString (eachN (c + 1))), relE (Plan.num p "B")]], V.tup [V.str (Str.ofString r), V.tup [sv "join", varE (eachN (c + 1)), thE k]]]]]) (eaV "A" p (c + 1)) (bas fd p (c + 1 + 1) [a, b, g, Cell.list [V.tup [V.str (Str.ofString "all"), V.tup [V.tup [V.str (Str.ofString (eachN (c + 1))), relE (Plan.num p "B")]], V.tup [V.str (Str.ofString r), V.tup [sv "join", varE (eachN (c + 1)), thE k]]]]]) ∧ Keep [0, 1, 2, 3, 4, 5, 6, 7, 9, 10, 11, 12] (bas fd p (c + 1) [a, b, g, Cell.list [V.tup [V.str (Str.ofString "all"), V.tup [V.tup [V.str (Str.ofString (eachN (c + 1))), relE (Plan.num p "B")]], V.tup [V.str (Str.ofString r), V.tup [sv "join", varE (eachN (c + 1)), thE k]]]]]) (bas fd p (c + 1 + 1) [a, b, g, Cell.list [V.tup [V.str (Str.ofString "all"), V.tup [V.tup [V.str (Str.ofString (eachN (c + 1))), relE (Plan.num p "B")]], V.tup [V.str (Str.ofString r), V.tup [sv "join", varE (eachN (c + 1)), thE k]]]]])) (ob (b_sideL C fd p (c + 1 + 1) a b g (Cell.list [V.tup [V.str (Str.ofString "all"), V.tup [V.tup [V.str (Str.ofString (eachN (c + 1))), relE (Plan.num p "B")]], V.tup [V.str (Str.ofString r), V.tup [sv "join", varE (eachN (c + 1)), thE k]]]]) hl (eachN (c + 1 + 1)) k "B" kvs) (chk_of op e)))))))))) (by kernel_rfl)
theorem b_mk10 (C : Cx) (fd : Cell) (p : Plan) (a b g : Cell) (k : Nat) (hc : c ≤ 2) (hA : lkp kvs (S "A") = none) (hB : lkp kvs (S "B") = none) (hr : marked r = true) (hl : marked l = false) : Con C tab 120 m_Opener_marked [.obj 463 8, thE k, arrN l r, .dct kvs] (bas fd p c [a, b, g]) (.lst [rgtE p r k (eachN (c + 1))]) (bas fd p (c + 1) [a, b, g]) := by
  have oA := fun c τ => b_exp1 C fd c τ hA (names_A p)
  have oB := fun c τ => b_exp1 C fd c τ hB (names_B p)
  have nA := names_A p
  have nB := names_B p
  have mr := mk_in (bas fd p c [a, b, g]) r hr
  have ml := mk_in (bas fd p c [a, b, g]) l hl
  have op := op_low p (c + 1) 3
  exact con_to (q := [.c 415053 60 (relE (Plan.num p "B")), .c 415078 60 (relE (Plan.num p "A")), .b 416037 true, .d 417050 80 (eaV "B" p c) (bas fd p (c + 1) [a, b, g, Cell.list []]), .c 421097 60 (manyE r (joE (varE (eachN (c + 1))) (thE k))), .b 422037 false]) (fun _ e => (ob (oB (c) ([a, b, g])) (ob (oA (c) ([a, b, g])) (ob mr (obd (⟨b_each C fd [a, b, g, Cell.list []] (Nat.le_trans hc (by decide)) nB, keep_bas _ (by decide) fd p _ _ _⟩ : Con C tab 80 m_Opener_each_of [.obj 463 8, relE (p.num "B")] (bas fd p (c) [a, b, g, Cell.list []]) (eaV "B" p (c)) (bas fd p (c + 1) [a, b, g, Cell.list []]) ∧ Keep [0, 1, 2, 3, 4, 5, 6, 7, 9, 10, 11, 12] (bas fd p (c) [a, b, g, Cell.list []]) (bas fd p (c + 1) [a, b, g, Cell.list []])) (ob (b_sideR C fd p (c + 1) a b g (Cell.list []) hr (eachN (c + 1)) k "A" kvs) (ob ml (chk_of op e)))))))) (by kernel_rfl)
theorem b_mk01 (C : Cx) (fd : Cell) (p : Plan) (a b g : Cell) (k : Nat) (hc : c ≤ 2) (hA : lkp kvs (S "A") = none) (hB : lkp kvs (S "B") = none) (hr : marked r = false) (hl : marked l = true) : Con C tab 120 m_Opener_marked [.obj 463 8, thE k, arrN l r, .dct kvs] (bas fd p c [a, b, g]) (.lst [lftE p l k (eachN (c + 1))]) (bas fd p (c + 1) [a, b, g]) := by
  have oA := fun c τ => b_exp1 C fd c τ hA (names_A p)
  have oB := fun c τ => b_exp1 C fd c τ hB (names_B p)
  have nA := names_A p
  have nB := names_B p
  have mr := mk_in (bas fd p c [a, b, g]) r hr
  have ml := mk_in (bas fd p c [a, b, g]) l hl
  have op := op_low p (c + 1) 3
  exact con_to (q := [.c 415053 60 (relE (Plan.num p "B")), .c 415078 60 (relE (Plan.num p "A")), .b 416037 false, .b 422037 true, .d 423051 80 (eaV "A" p c) (bas fd p (c + 1) [a, b, g, Cell.list []]), .c 427097 60 (manyE l (joE (thE k) (varE (eachN (c + 1)))))]) (fun _ e => (ob (oB (c) ([a, b, g])) (ob (oA (c) ([a, b, g])) (ob mr (ob ml (obd (⟨b_each C fd [a, b, g, Cell.list []] (Nat.le_trans hc (by decide)) nA, keep_bas _ (by decide) fd p _ _ _⟩ : Con C tab 80 m_Opener_each_of [.obj 463 8, relE (p.num "A")] (bas fd p (c) [a, b, g, Cell.list []]) (eaV "A" p (c)) (bas fd p (c + 1) [a, b, g, Cell.list []]) ∧ Keep [0, 1, 2, 3, 4, 5, 6, 7, 9, 10, 11, 12] (bas fd p (c) [a, b, g, Cell.list []]) (bas fd p (c + 1) [a, b, g, Cell.list []])) (ob (b_sideL C fd p (c + 1) a b g (Cell.list []) hl (eachN (c + 1)) k "B" kvs) (chk_of op e)))))))) (by kernel_rfl)
theorem b_mk00 (C : Cx) (fd : Cell) (p : Plan) (a b g : Cell) (k : Nat) (hc : c ≤ 2) (hA : lkp kvs (S "A") = none) (hB : lkp kvs (S "B") = none) (hr : marked r = false) (hl : marked l = false) : Con C tab 120 m_Opener_marked [.obj 463 8, thE k, arrN l r, .dct kvs] (bas fd p c [a, b, g]) (.lst []) (bas fd p c [a, b, g]) := by
  have oA := fun c τ => b_exp1 C fd c τ hA (names_A p)
  have oB := fun c τ => b_exp1 C fd c τ hB (names_B p)
  have nA := names_A p
  have nB := names_B p
  have mr := mk_in (bas fd p c [a, b, g]) r hr
  have ml := mk_in (bas fd p c [a, b, g]) l hl
  have op := op_low p c 3
  exact con_of (q := [.c 415053 60 (relE (Plan.num p "B")), .c 415078 60 (relE (Plan.num p "A")), .b 416037 false, .b 422037 false]) (fun _ e => (ob (oB (c) ([a, b, g])) (ob (oA (c) ([a, b, g])) (ob mr (ob ml (chk_of op e)))))) (by kernel_rfl)
end
abbrev binN : V := .tup [sv "bin", .int 0, sv "+", nameE "A", nameE "B"]
section
variable {C : Cx} {fd a g b h : Cell} {p : Plan} {x y fa m : String} {c : Nat} {τ : List Cell} {w X : V} {kvs : List (Str × V)} {k : Nat} {LL : List V} {l r : String}
theorem b_bdN (C : Cx) (fd : Cell) (c : Nat) (a b : Cell) (k : Nat) (he : lkp kvs (S y) = none) (hy : y ∈ p.names) : Con C tab 140 m_Opener_bounded [.obj 463 8, thE k, nameE y, .dct kvs] (bas fd p c [a, b]) (inE (thE k) (relE (p.num y))) (bas fd p c [a, b]) := by
  have oY := fun τ => b_exp1 C fd c τ he hy
  have op := op_low p c 2
  exact con_of (q := [.c 409051 60 (relE (Plan.num p y))]) (fun _ e => (ob (oY ([a, b])) (chk_of op e))) (by kernel_rfl)
theorem b_bdB (C : Cx) (fd : Cell) (p : Plan) (c : Nat) (a b : Cell) (k : Nat) (hA : lkp kvs (S "A") = none) (hB : lkp kvs (S "B") = none) : Con C tab 140 m_Opener_bounded [.obj 463 8, thE k, binN, .dct kvs] (bas fd p c [a, b]) (inE (thE k) (unE (relE (p.num "A")) (relE (p.num "B")))) (bas fd p c [a, b]) := by
  have oY := fun τ => b_exp2 C fd p c τ hA hB
  have op := op_low p c 2
  exact con_of (q := [.c 409051 80 (unE (relE (Plan.num p "A")) (relE (Plan.num p "B")))]) (fun _ e => (ob (oY ([a, b])) (chk_of op e))) (by kernel_rfl)
theorem b_bd11 (C : Cx) (fd : Cell) (p : Plan) (a b : Cell) (k : Nat) (hc : c ≤ 2) (hA : lkp kvs (S "A") = none) (hB : lkp kvs (S "B") = none) (hr : marked r = true) (hl : marked l = true) : Con C tab 140 m_Opener_bounded [.obj 463 8, thE k, arrN l r, .dct kvs] (bas fd p c [a, b]) (joinF (inE (thE k) (prE (relE (p.num "B")) (relE (p.num "A"))) :: [rgtE p r k (eachN (c + 1)), lftE p l k (eachN (c + 1 + 1))])) (bas fd p (c + 1 + 1) [a, b]) := by
  have oY := fun τ => b_exp3 (l := l) (r := r) C fd p c τ hA hB
  have mr := mk_in (bas fd p c [a, b]) r hr
  have ml := mk_in (bas fd p c [a, b]) l hl
  have op := op_low p (c + 1 + 1) 2
  have mk := fun g => (⟨b_mk11 C fd p a b g k hc hA hB hr hl, keep_bas _ (by decide) fd p c (c + 1 + 1) [a, b, g]⟩ : Con C tab 120 m_Opener_marked [.obj 463 8, thE k, arrN l r, .dct kvs] (bas fd p c [a, b, g]) (.lst [rgtE p r k (eachN (c + 1)), lftE p l k (eachN (c + 1 + 1))]) (bas fd p (c + 1 + 1) [a, b, g]) ∧ Keep [0, 1, 2, 3, 4, 5, 6, 7, 9, 10, 11] (bas fd p c [a, b, g]) (bas fd p (c + 1 + 1) [a, b, g]))
  exact con_to (q := [.c 409051 80 (prE (relE (Plan.num p "B")) (relE (Plan.num p "A"))), .b 406041 true, .d 411054 120 (V.lst [rgtE p r k (eachN (c + 1)), lftE p l k (eachN (c + 1 + 1))]) (bas fd p (c + 1 + 1) [a, b, Cell.list [V.tup [V.str (Str.ofString "in"), thE k, prE (relE (Plan.num p "B")) (relE (Plan.num p "A"))]]])]) (fun _ e => (ob (oY ([a, b])) (ob ml (obd (mk (Cell.list [V.tup [V.str (Str.ofString "in"), thE k, prE (relE (Plan.num p "B")) (relE (Plan.num p "A"))]])) (chk_of op e))))) (by kernel_rfl)
theorem b_bd10 (C : Cx) (fd : Cell) (p : Plan) (a b : Cell) (k : Nat) (hc : c ≤ 2) (hA : lkp kvs (S "A") = none) (hB : lkp kvs (S "B") = none) (hr : marked r = true) (hl : marked l = false) : Con C tab 140 m_Opener_bounded [.obj 463 8, thE k, arrN l r, .dct kvs] (bas fd p c [a, b]) (joinF (inE (thE k) (prE (relE (p.num "B")) (relE (p.num "A"))) :: [rgtE p r k (eachN (c + 1))])) (bas fd p (c + 1) [a, b]) := by
  have oY := fun τ => b_exp3 (l := l) (r := r) C fd p c τ hA hB
  have mr := mk_in (bas fd p c [a, b]) r hr
  have ml := mk_in (bas fd p c [a, b]) l hl
  have op := op_low p (c + 1) 2
  have mk := fun g => (⟨b_mk10 C fd p a b g k hc hA hB hr hl, keep_bas _ (by decide) fd p c (c + 1) [a, b, g]⟩ : Con C tab 120 m_Opener_marked [.obj 463 8, thE k, arrN l r, .dct kvs] (bas fd p c [a, b, g]) (.lst [rgtE p r k (eachN (c + 1))]) (bas fd p (c + 1) [a, b, g]) ∧ Keep [0, 1, 2, 3, 4, 5, 6, 7, 9, 10, 11] (bas fd p c [a, b, g]) (bas fd p (c + 1) [a, b, g]))
  exact con_to (q := [.c 409051 80 (prE (relE (Plan.num p "B")) (relE (Plan.num p "A"))), .b 406041 false, .b 406071 true, .d 411054 120 (V.lst [rgtE p r k (eachN (c + 1))]) (bas fd p (c + 1) [a, b, Cell.list [V.tup [V.str (Str.ofString "in"), thE k, prE (relE (Plan.num p "B")) (relE (Plan.num p "A"))]]])]) (fun _ e => (ob (oY ([a, b])) (ob ml (ob mr (obd (mk (Cell.list [V.tup [V.str (Str.ofString "in"), thE k, prE (relE (Plan.num p "B")) (relE (Plan.num p "A"))]])) (chk_of op e)))))) (by kernel_rfl)
theorem b_bd01 (C : Cx) (fd : Cell) (p : Plan) (a b : Cell) (k : Nat) (hc : c ≤ 2) (hA : lkp kvs (S "A") = none) (hB : lkp kvs (S "B") = none) (hr : marked r = false) (hl : marked l = true) : Con C tab 140 m_Opener_bounded [.obj 463 8, thE k, arrN l r, .dct kvs] (bas fd p c [a, b]) (joinF (inE (thE k) (prE (relE (p.num "B")) (relE (p.num "A"))) :: [lftE p l k (eachN (c + 1))])) (bas fd p (c + 1) [a, b]) := by
  have oY := fun τ => b_exp3 (l := l) (r := r) C fd p c τ hA hB
  have mr := mk_in (bas fd p c [a, b]) r hr
  have ml := mk_in (bas fd p c [a, b]) l hl
  have op := op_low p (c + 1) 2
  have mk := fun g => (⟨b_mk01 C fd p a b g k hc hA hB hr hl, keep_bas _ (by decide) fd p c (c + 1) [a, b, g]⟩ : Con C tab 120 m_Opener_marked [.obj 463 8, thE k, arrN l r, .dct kvs] (bas fd p c [a, b, g]) (.lst [lftE p l k (eachN (c + 1))]) (bas fd p (c + 1) [a, b, g]) ∧ Keep [0, 1, 2, 3, 4, 5, 6, 7, 9, 10, 11] (bas fd p c [a, b, g]) (bas fd p (c + 1) [a, b, g]))
  exact con_to (q := [.c 409051 80 (prE (relE (Plan.num p "B")) (relE (Plan.num p "A"))), .b 406041 true, .d 411054 120 (V.lst [lftE p l k (eachN (c + 1))]) (bas fd p (c + 1) [a, b, Cell.list [V.tup [V.str (Str.ofString "in"), thE k, prE (relE (Plan.num p "B")) (relE (Plan.num p "A"))]]])]) (fun _ e => (ob (oY ([a, b])) (ob ml (obd (mk (Cell.list [V.tup [V.str (Str.ofString "in"), thE k, prE (relE (Plan.num p "B")) (relE (Plan.num p "A"))]])) (chk_of op e))))) (by kernel_rfl)
theorem b_bd00 (C : Cx) (fd : Cell) (p : Plan) (a b : Cell) (k : Nat) (hc : c ≤ 2) (hA : lkp kvs (S "A") = none) (hB : lkp kvs (S "B") = none) (hr : marked r = false) (hl : marked l = false) : Con C tab 140 m_Opener_bounded [.obj 463 8, thE k, arrN l r, .dct kvs] (bas fd p c [a, b]) (joinF (inE (thE k) (prE (relE (p.num "B")) (relE (p.num "A"))) :: [])) (bas fd p c [a, b]) := by
  have oY := fun τ => b_exp3 (l := l) (r := r) C fd p c τ hA hB
  have mr := mk_in (bas fd p c [a, b]) r hr
  have ml := mk_in (bas fd p c [a, b]) l hl
  have op := op_low p c 2
  exact con_of (q := [.c 409051 80 (prE (relE (Plan.num p "B")) (relE (Plan.num p "A"))), .b 406041 false, .b 406071 false]) (fun _ e => (ob (oY ([a, b])) (ob ml (ob mr (chk_of op e))))) (by kernel_rfl)
theorem b_wiN (C : Cx) (fd : Cell) (c : Nat) (a b : Cell) (k : Nat) (he : lkp kvs (S y) = none) (hy : y ∈ p.names) (hm : Mu5 m) : Con C tab 160 m_Opener_within [.obj 463 8, thE k, sv m, (nameE y), .dct kvs] (bas fd p c [a, b]) (joinF ([inE (thE k) (relE (p.num y))] ++ cond (marked (cond (m == "") "one" m)) [manyE (cond (m == "") "one" m) (thE k)] [])) (bas fd p c [a, b]) := by
  have bo := b_bdN (C := C) (fd := fd) c a b k he hy
  have oY := fun τ => (b_exp1 C fd c τ he hy).up (by decide : 60 ≤ 80)
  have ar := fun τ => (b_ar1 C fd c τ hy).up (by decide : 60 ≤ 80)
  have op := op_low p c 2
  cases h0 : m == "" with
  | true =>
    obtain rfl := eq_of_beq h0
    exact con_of (q := [.c 449046 140 (inE (thE k) (relE (Plan.num p y))), .c 450081 80 (relE (Plan.num p y)), .c 450082 80 (V.int 1)]) (fun _ e => (ob bo (ob (oY ([a, b])) (ob (ar ([a, b])) (chk_of op e))))) (by kernel_rfl)
  | false =>
    have hm2 := eq_strs (bas fd p c [a, b]) h0
    cases h1 : marked m with
    | false =>
      have e : m = "set" := hm.elim (fun e => absurd (beq_iff_eq.mpr e) (by rw [h0]; exact Bool.false_ne_true)) fun h => h.elim id fun h => absurd h1 (by rcases h with rfl | rfl | rfl <;> decide)
      subst e
      exact con_of (q := [.c 449046 140 (inE (thE k) (relE (Plan.num p y)))]) (fun _ e => (ob bo (chk_of op e))) (by kernel_rfl)
    | true =>
      have hn := mk_in (bas fd p c [a, b]) m h1
      have hm := hm2
      rw [show marked (cond false "one" m) = true from h1]
      exact con_of (q := [.c 449046 140 (inE (thE k) (relE (Plan.num p y))), .b 450021 false, .b 452072 true]) (fun _ e => (ob bo (ob hm (ob hn (chk_of op e))))) (by kernel_rfl)
theorem b_wiB (C : Cx) (fd : Cell) (p : Plan) (c : Nat) (a b : Cell) (k : Nat) (hA : lkp kvs (S "A") = none) (hB : lkp kvs (S "B") = none) (hm : Mu5 m) : Con C tab 160 m_Opener_within [.obj 463 8, thE k, sv m, binN, .dct kvs] (bas fd p c [a, b]) (joinF ([inE (thE k) (unE (relE (p.num "A")) (relE (p.num "B")))] ++ cond (marked (cond (m == "") "one" m)) [manyE (cond (m == "") "one" m) (thE k)] [])) (bas fd p c [a, b]) := by
  have bo := b_bdB C fd p c a b k hA hB
  have oY := fun τ => b_exp2 C fd p c τ hA hB
  have ar := fun τ => b_ar2 C fd p c τ
  have op := op_low p c 2
  cases h0 : m == "" with
  | true =>
    obtain rfl := eq_of_beq h0
    exact con_of (q := [.c 449046 140 (inE (thE k) (unE (relE (Plan.num p "A")) (relE (Plan.num p "B")))), .c 450081 80 (unE (relE (Plan.num p "A")) (relE (Plan.num p "B"))), .c 450082 80 (V.int 1)]) (fun _ e => (ob bo (ob (oY ([a, b])) (ob (ar ([a, b])) (chk_of op e))))) (by kernel_rfl)
  | false =>
    have hm2 := eq_strs (bas fd p c [a, b]) h0
    cases h1 : marked m with
    | false =>
      have e : m = "set" := hm.elim (fun e => absurd (beq_iff_eq.mpr e) (by rw [h0]; exact Bool.false_ne_true)) fun h => h.elim id fun h => absurd h1 (by rcases h with rfl | rfl | rfl <;> decide)
      subst e
      exact con_of (q := [.c 449046 140 (inE (thE k) (unE (relE (Plan.num p "A")) (relE (Plan.num p "B"))))]) (fun _ e => (ob bo (chk_of op e))) (by kernel_rfl)
    | true =>
      have hn := mk_in (bas fd p c [a, b]) m h1
      have hm := hm2
      rw [show marked (cond false "one" m) = true from h1]
      exact con_of (q := [.c 449046 140 (inE (thE k) (unE (relE (Plan.num p "A")) (relE (Plan.num p "B")))), .b 450021 false, .b 452072 true]) (fun _ e => (ob bo (ob hm (ob hn (chk_of op e))))) (by kernel_rfl)
end
section
variable {C : Cx} {fd a g b h : Cell} {p : Plan} {x y fa m f : String} {c : Nat} {τ : List Cell} {w X : V} {kvs : List (Str × V)} {k : Nat} {LL : List V} {l r : String}
theorem b_wi11 (C : Cx) (fd : Cell) (p : Plan) (a b : Cell) (k : Nat) (hc : c ≤ 2) (hA : lkp kvs (S "A") = none) (hB : lkp kvs (S "B") = none) (hr : marked r = true) (hl : marked l = true) : Con C tab 160 m_Opener_within [.obj 463 8, thE k, sv "", arrN l r, .dct kvs] (bas fd p c [a, b]) (joinF (inE (thE k) (prE (relE (p.num "B")) (relE (p.num "A"))) :: [rgtE p r k (eachN (c + 1)), lftE p l k (eachN (c + 1 + 1))])) (bas fd p (c + 1 + 1) [a, b]) :=
  con_to (q := [.d 449046 140 (joinF (inE (thE k) (prE (relE (p.num "B")) (relE (p.num "A"))) :: [rgtE p r k (eachN (c + 1)), lftE p l k (eachN (c + 1 + 1))])) (bas fd p (c + 1 + 1) [a, b])]) (fun _ e => ob (b_bd11 C fd p a b k hc hA hB hr hl) (ob (keep_bas _ (by decide) fd p c (c + 1 + 1) [a, b] : Keep [0, 1, 2, 3, 4, 5, 6, 7, 9, 10, 11] (bas fd p c [a, b]) (bas fd p (c + 1 + 1) [a, b])) (chk_of (op_low p (c + 1 + 1) 2) e))) (by kernel_rfl)
theorem b_wi10 (C : Cx) (fd : Cell) (p : Plan) (a b : Cell) (k : Nat) (hc : c ≤ 2) (hA : lkp kvs (S "A") = none) (hB : lkp kvs (S "B") = none) (hr : marked r = true) (hl : marked l = false) : Con C tab 160 m_Opener_within [.obj 463 8, thE k, sv "", arrN l r, .dct kvs] (bas fd p c [a, b]) (joinF (inE (thE k) (prE (relE (p.num "B")) (relE (p.num "A"))) :: [rgtE p r k (eachN (c + 1))])) (bas fd p (c + 1) [a, b]) :=
  con_to (q := [.d 449046 140 (joinF (inE (thE k) (prE (relE (p.num "B")) (relE (p.num "A"))) :: [rgtE p r k (eachN (c + 1))])) (bas fd p (c + 1) [a, b])]) (fun _ e => ob (b_bd10 C fd p a b k hc hA hB hr hl) (ob (keep_bas _ (by decide) fd p c (c + 1) [a, b] : Keep [0, 1, 2, 3, 4, 5, 6, 7, 9, 10, 11] (bas fd p c [a, b]) (bas fd p (c + 1) [a, b])) (chk_of (op_low p (c + 1) 2) e))) (by kernel_rfl)
theorem b_wi01 (C : Cx) (fd : Cell) (p : Plan) (a b : Cell) (k : Nat) (hc : c ≤ 2) (hA : lkp kvs (S "A") = none) (hB : lkp kvs (S "B") = none) (hr : marked r = false) (hl : marked l = true) : Con C tab 160 m_Opener_within [.obj 463 8, thE k, sv "", arrN l r, .dct kvs] (bas fd p c [a, b]) (joinF (inE (thE k) (prE (relE (p.num "B")) (relE (p.num "A"))) :: [lftE p l k (eachN (c + 1))])) (bas fd p (c + 1) [a, b]) :=
  con_to (q := [.d 449046 140 (joinF (inE (thE k) (prE (relE (p.num "B")) (relE (p.num "A"))) :: [lftE p l k (eachN (c + 1))])) (bas fd p (c + 1) [a, b])]) (fun _ e => ob (b_bd01 C fd p a b k hc hA hB hr hl) (ob (keep_bas _ (by decide) fd p c (c + 1) [a, b] : Keep [0, 1, 2, 3, 4, 5, 6, 7, 9, 10, 11] (bas fd p c [a, b]) (bas fd p (c + 1) [a, b])) (chk_of (op_low p (c + 1) 2) e))) (by kernel_rfl)
theorem b_wi00 (C : Cx) (fd : Cell) (p : Plan) (a b : Cell) (k : Nat) (hc : c ≤ 2) (hA : lkp kvs (S "A") = none) (hB : lkp kvs (S "B") = none) (hr : marked r = false) (hl : marked l = false) : Con C tab 160 m_Opener_within [.obj 463 8, thE k, sv "", arrN l r, .dct kvs] (bas fd p c [a, b]) (joinF (inE (thE k) (prE (relE (p.num "B")) (relE (p.num "A"))) :: [])) (bas fd p c [a, b]) :=
  con_of (q := [.c 449046 140 (joinF (inE (thE k) (prE (relE (p.num "B")) (relE (p.num "A"))) :: []))]) (fun _ e => ob (b_bd00 C fd p a b k hc hA hB hr hl) (chk_of (op_low p c 2) e)) (by kernel_rfl)
def cntP (p : Plan) : Nat := cond (decide ((p.kind : Int) < 3)) 0 (cR p + cond (marked p.left) 1 0)
theorem le3 {k : Nat} (h : k ≤ 3) : k = 0 ∨ k = 1 ∨ k = 2 ∨ k = 3 := by
  rcases Nat.lt_or_eq_of_le h with h | h
  · rcases Nat.lt_or_eq_of_le (Nat.le_of_lt_succ h) with h | h
    · rcases Nat.lt_or_eq_of_le (Nat.le_of_lt_succ h) with h | h
      · exact .inl (Nat.le_zero.mp (Nat.le_of_lt_succ h))
      · exact .inr (.inl h)
    · exact .inr (.inr (.inl h))
  · exact .inr (.inr (.inr h))
theorem b_within (C : Cx) (fd : Cell) (a b : Cell) (f : String) (hk : p.kind ≤ 3) (h3 : p.kind = 3 → p.mult = "") (hm : Mu5 p.mult) (hc : c ≤ 2) (hA : lkp kvs (S "A") = none) (hB : lkp kvs (S "B") = none) : Con C tab 160 m_Opener_within [.obj 463 8, thE (p.fnum f), sv p.mult, nodeV p, .dct kvs] (bas fd p c [a, b]) (joinF (boundF p f c)) (bas fd p (c + cntP p) [a, b]) := by
  unfold boundF cntP cR mult1
  rcases le3 hk with h | h | h | h
  · rw [show nodeV p = nameE "B" from by unfold nodeV; rw [h]; rfl]
    rw [h]
    exact b_wiN C fd c a b (p.fnum f) hB (names_B p) hm
  · rw [show nodeV p = nameE "A" from by unfold nodeV; rw [h]; rfl]
    rw [h]
    exact b_wiN C fd c a b (p.fnum f) hA (names_A p) hm
  · rw [show nodeV p = binN from by unfold nodeV; rw [h]; rfl]
    rw [h]
    exact b_wiB C fd p c a b (p.fnum f) hA hB hm
  · rw [show nodeV p = arrN p.left p.right from by unfold nodeV; rw [h]; rfl, h3 h]
    rw [h]
    unfold rightE leftE
    cases hr : marked p.right with
    | true => cases hl : marked p.left with
      | true => exact b_wi11 C fd p a b (p.fnum f) hc hA hB hr hl
      | false => exact b_wi10 C fd p a b (p.fnum f) hc hA hB hr hl
    | false => cases hl : marked p.left with
      | true => exact b_wi01 C fd p a b (p.fnum f) hc hA hB hr hl
      | false => exact b_wi00 C fd p a b (p.fnum f) hc hA hB hr hl
end
section
variable {C : Cx} {fd a g b h : Cell} {p : Plan} {x y m f : String} {c : Nat} {τ : List Cell} {k : Nat} {t : Bool}
structure PlanOk (p : Plan) : Prop where
  kids : p.kids ≤ 2
  part : p.part ≤ 2
  mu : ∀ x, Mu4 (muS p x)
  ow : p.ow = true → p.kids ≠ 0
  kind : p.kind ≤ 3
  left : Mu5 p.left
  right : Mu5 p.right
  mult : Mu5 p.mult
  k3 : p.kind = 3 → p.mult = ""
  fact : p.fact = "" ∨ p.fact = "some" ∨ p.fact = "no"
theorem good0 (ho : p.owner ∈ p.names) : Good p (fun _ => []) (fun _ => []) (fun _ => []) := ⟨ho, fun _ _ => ⟨rfl, Nat.zero_le _, .nil⟩, fun _ _ => ⟨rfl, Nat.zero_le _, .nil⟩, fun _ _ _ m => absurd m List.not_mem_nil⟩
theorem bound_len (p : Plan) (f : String) (c : Nat) : boundF p f c ≠ [] ∧ (boundF p f c).length ≤ 1000 := by
  unfold boundF
  generalize inE (valueE p f) (exE p p.kind) = x1
  generalize manyE (mult1 p) (valueE p f) = x2
  generalize inE (valueE p f) _ = x3
  generalize rightE p f _ = x4
  generalize leftE p f _ = x5
  cases decide ((p.kind : Int) < 3) <;> cases marked (mult1 p) <;> cases marked p.right <;> cases marked p.left <;> exact ⟨fun h => (List.cons_ne_nil _ _ h), Nat.le_of_ble_eq_true rfl⟩
theorem bound_pl (C : Cx) (hp : PlanOk p) (ho : p.owner ∈ p.names) (hf : f ∈ p.fields) (c k : Nat) : (joinF (boundF p f c)).pl (k + 10 + 2) = true :=
  ((bound_fts (C := C) (σ := []) (e := .dct (entV [("this", 0)])) (a := 0) (good0 ho) hf rfl hp.mult hp.right hp.left).join (bound_len p f c).1 (bound_len p f c).2 (by decide)).2 k
theorem b_fcts (C : Cx) (fd : Cell) (c : Nat) (τ : List Cell) (hx : x ∈ p.names) : Con C tab 20 m_Signatures_facts [.obj 630 1, sv x] (bas fd p c τ) (.tup (if x == p.owner then factV p else [])) (bas fd p c τ) := by
  have ix := ix_of (σ := bas fd p c τ) (n := 2) (ds := entsL p) rfl (lkp_ents hx)
  have l : (if x == p.owner then factV p else []).length ≤ 100000 := by
    unfold factV
    split
    · split <;> exact Nat.le_of_ble_eq_true rfl
    · exact Nat.le_of_ble_eq_true rfl
  have bt := bt_tup (σ := bas fd p c τ) l
  have fr := fr_tup (σ := bas fd p c τ) (n := (bas fd p c τ).length) (l := if x == p.owner then factV p else []) (by
    split
    · exact fact_pl (k := 20)
    · rfl)
  exact con_of (q := [.v 601039 (itemP p x), .w 601043 (V.tup (if (x == Plan.owner p) = true then factV p else [])) (bas fd p c τ), .v 0 (V.tup (if (x == Plan.owner p) = true then factV p else []))]) (fun _ e => (ob ix (ob bt (ob fr e)))) (by kernel_rfl)
theorem env_f (p : Plan) : lkp (envB p true) (S "f") = some (thE (p.fnum "f")) := by
  unfold envB
  rcases fields_cases p with h | h <;> rw [h] <;> kernel_rfl
theorem env_A (p : Plan) (b : Bool) : lkp (envB p b) (S "A") = none ∧ lkp (envB p b) (S "B") = none := by
  unfold envB
  cases b with
  | false => exact ⟨by kernel_rfl, by kernel_rfl⟩
  | true => rcases fields_cases p with h | h <;> rw [h] <;> exact ⟨by kernel_rfl, by kernel_rfl⟩
theorem i_fact (C : Cx) (fd : Cell) (c : Nat) (a : Cell) (hp : PlanOk p) (hx : x ∈ p.names) : Con C tab 140 f_fact_formulas [.obj 630 1, .obj 463 8, sv x] (bas fd p c [a]) (.lst (facF p x)) (bas fd p c [a]) := by
  have fa := fun τ => b_fcts C fd c τ hx
  unfold facF
  cases h : x == p.owner with
  | false =>
    have en := b_env1 (a := a) C fd c hp.part hx rfl
    rw [h] at fa
    exact con_of (q := [.c 36037 120 (.dct (envB p ((x :: upG p.part x).contains p.owner))), .c 37094 20 (.tup [])]) (fun _ e => (ob en (ob (fa ([a])) e))) (by kernel_rfl)
  | true =>
    have hc : (x :: upG p.part x).contains p.owner = true := by
      rw [eq_of_beq h, List.contains_cons, beq_self_eq_true]
      rfl
    have en := b_env1 (a := a) C fd c hp.part hx hc
    rw [h] at fa
    cases h2 : p.fact == "" with
    | true =>
      have e : (if true = true then factV p else []) = [] := by
        unfold factV
        rw [h2]
        rfl
      rw [e] at fa
      exact con_of (q := [.c 36037 120 (V.dct (envB p true)), .c 37094 20 (V.tup [])]) (fun _ e => (ob en (ob (fa ([a])) e))) (by kernel_rfl)
    | false =>
      have e : (if true = true then factV p else []) = [.tup [sv "un", .int 0, sv p.fact, nameE "f"]] := by
        unfold factV
        rw [h2]
        rfl
      rw [e] at fa
      have tr := fun τ => b_truth C fd p c τ (env_f p) (hp.fact.resolve_left fun q => absurd (beq_iff_eq.mpr q) (by rw [h2]; exact Bool.false_ne_true))
      have ea := fun τ => i_each (C := C) (oAt fd p c τ) (names_nm hx) (manyE p.fact (thE (p.fnum "f"))) (by kernel_rfl)
      rw [show facE p = allE "this" (relE (p.num x)) (manyE p.fact (thE (p.fnum "f"))) from by rw [eq_of_beq h]; rfl]
      exact con_of (q := [.c 36037 120 (V.dct (envB p true)), .c 37094 20 (V.tup [V.tup [sv "un", V.int 0, sv p.fact, nameE "f"]]), .c 37058 80 (manyE p.fact (thE (p.fnum "f"))), .c 37059 40 (allE "this" (relE (p.num x)) (manyE p.fact (thE (p.fnum "f"))))]) (fun _ e => (ob en (ob (fa ([a])) (ob (tr ([a])) (ob (ea ([a])) e))))) (by kernel_rfl)
theorem i_fieldf (C : Cx) (fd : Cell) (a b : Cell) (hp : PlanOk p) (ho : p.owner ∈ p.names) (hc : c ≤ 2) : Con C tab 200 f_field_formulas [.obj 463 8, fldE p "f", .lst []] (bas fd p c [a, b]) (.lst (fieldF p "f" c)) (bas fd p (c + cntP p) [a, b]) := by
  have hf : "f" ∈ p.fields := f_mem p
  have ol := own_1 p
  have l2 : (S (p.owner ++ ".")).length = 2 := by rw [len_lit, String.length_append, ol]; rfl
  have t1 := add_strs (a := p.owner) (b := ".") (s := bas fd p c [a, b]) (by rw [len_lit, ol]; decide)
  have t2 := add_strs (a := p.owner ++ ".") (b := "f") (s := bas fd p c [a, b]) (by rw [l2]; decide)
  have s3 := add_strs (a := p.owner ++ ".") (b := "g") (s := bas fd p c [a, b]) (by rw [l2]; decide)
  have r0 := fun c τ y (h : y ∈ p.nm) => b_rel C fd c τ h
  have n1 := fld_nm (f_mem p)
  have n2 := fld_nm hf
  have n3 := names_nm ho
  have en := b_env2 (a := a) (b := b) C fd c hp.part ho (t := true) (by rw [List.contains_cons, beq_self_eq_true]; rfl)
  have wi : Con C tab 160 m_Opener_within [.obj 463 8, thE (p.fnum "f"), sv p.mult, nodeV p, .dct (envB p true)] (bas fd p c [a, b]) (joinF (boundF p "f" c)) (bas fd p (c + cntP p) [a, b]) ∧ Keep [0, 1, 2, 3, 4, 5, 6, 7, 9, 10, 11] (bas fd p c [a, b]) (bas fd p (c + cntP p) [a, b]) := ⟨b_within C fd a b "f" hp.kind hp.k3 hp.mult hc (env_A p true).1 (env_A p true).2, keep_bas _ (by decide) fd p c (c + cntP p) [a, b]⟩
  have bp := fun k => bound_pl C hp ho hf c k
  have ea := fun c' τ => i_each (C := C) (oAt fd p c' τ) n3 (joinF (boundF p "f" c)) (bp 18)
  have op := op_low p (c + cntP p) 2
  have oo := eq_strs (bas fd p c []) (x := p.owner) (y := p.owner) (beq_self_eq_true _)
  have pl : V.pls 30 [inE (relE (p.fnum "f")) (ahE (relE (p.num p.owner)) (relE (p.fnum "f"))), thisE p "f" c] = true := by
    show (true && ((true && (true && ((joinF (boundF p "f" c)).pl 29 && true))) && true)) = true
    rw [bp 17]
    rfl
  exact con_to (q := [.v 40036 (sv (Plan.owner p ++ ".")), .v 40043 (sv (Plan.owner p ++ "." ++ "f")), .c 40044 20 (relE (Plan.num p (Plan.owner p ++ "." ++ "f"))), .c 41085 120 (V.dct (envB p true)), .d 41086 160 (joinF (boundF p "f" c)) (bas fd p (c + cntP p) [a, b]), .c 42056 20 (relE (Plan.num p (Plan.owner p))), .c 42093 40 (thisE p "f" c), .v 0 (.lst [inE (relE (p.fnum "f")) (ahE (relE (p.num p.owner)) (relE (p.fnum "f"))), thisE p "f" c])]) (fun _ e => (ob t1 (ob t2 (ob (r0 (c) ([a, b]) (Plan.owner p ++ "." ++ "f") (n1)) (ob en (obd wi (ob (r0 (c + cntP p) ([a, b]) (Plan.owner p) (n3)) (ob (ea (c + cntP p) ([a, b])) (chk_of op (ob (fr_loc (σ := bas fd p (c + cntP p) [a, b, .list [inE (relE (p.fnum "f")) (ahE (relE (p.num p.owner)) (relE (p.fnum "f"))), thisE p "f" c]]) (n := 12) (j := 12) rfl (by decide) pl) e)))))))))) (by kernel_rfl)
theorem i_fieldg (C : Cx) (fd : Cell) (a b : Cell) (hp : PlanOk p) (ho : p.owner ∈ p.names) (ht : p.two = true) (hc : c ≤ 2) : Con C tab 200 f_field_formulas [.obj 463 8, fldE p "g", .lst [fldE p "f"]] (bas fd p c [a, b]) (.lst (fieldF p "g" c)) (bas fd p (c + cntP p) [a, b]) := by
  have hf : "g" ∈ p.fields := by unfold Plan.fields; rw [ht]; exact .tail _ (.head _)
  have ol := own_1 p
  have l2 : (S (p.owner ++ ".")).length = 2 := by rw [len_lit, String.length_append, ol]; rfl
  have t1 := add_strs (a := p.owner) (b := ".") (s := bas fd p c [a, b]) (by rw [len_lit, ol]; decide)
  have t2 := add_strs (a := p.owner ++ ".") (b := "f") (s := bas fd p c [a, b]) (by rw [l2]; decide)
  have s3 := add_strs (a := p.owner ++ ".") (b := "g") (s := bas fd p c [a, b]) (by rw [l2]; decide)
  have r0 := fun c τ y (h : y ∈ p.nm) => b_rel C fd c τ h
  have n1 := fld_nm (f_mem p)
  have n2 := fld_nm hf
  have n3 := names_nm ho
  have en := b_env2 (a := a) (b := b) C fd c hp.part ho (t := true) (by rw [List.contains_cons, beq_self_eq_true]; rfl)
  have wi : Con C tab 160 m_Opener_within [.obj 463 8, thE (p.fnum "g"), sv p.mult, nodeV p, .dct (envB p true)] (bas fd p c [a, b]) (joinF (boundF p "g" c)) (bas fd p (c + cntP p) [a, b]) ∧ Keep [0, 1, 2, 3, 4, 5, 6, 7, 9, 10, 11] (bas fd p c [a, b]) (bas fd p (c + cntP p) [a, b]) := ⟨b_within C fd a b "g" hp.kind hp.k3 hp.mult hc (env_A p true).1 (env_A p true).2, keep_bas _ (by decide) fd p c (c + cntP p) [a, b]⟩
  have bp := fun k => bound_pl C hp ho hf c k
  have ea := fun c' τ => i_each (C := C) (oAt fd p c' τ) n3 (joinF (boundF p "g" c)) (bp 18)
  have op := op_low p (c + cntP p) 2
  have oo := eq_strs (bas fd p c []) (x := p.owner) (y := p.owner) (beq_self_eq_true _)
  have pl : V.pls 30 [inE (relE (p.fnum "g")) (ahE (relE (p.num p.owner)) (relE (p.fnum "g"))), thisE p "g" c, manyE "no" (meE (relE (p.fnum "f")) (relE (p.fnum "g")))] = true := by
    show (true && ((true && (true && ((joinF (boundF p "g" c)).pl 29 && true))) && (true && true))) = true
    rw [bp 17]
    rfl
  unfold fldE
  rw [ht]
  exact con_to (q := [.v 40036 (sv (Plan.owner p ++ ".")), .v 40043 (sv (Plan.owner p ++ "." ++ "g")), .c 40044 20 (relE (Plan.num p (Plan.owner p ++ "." ++ "g"))), .c 41085 120 (V.dct (envB p true)), .d 41086 160 (joinF (boundF p "g" c)) (bas fd p (c + cntP p) [a, b]), .c 42056 20 (relE (Plan.num p (Plan.owner p))), .c 42093 40 (thisE p "g" c), .b 44041 true, .v 45067 (sv (Plan.owner p ++ ".")), .v 45078 (V.str (Str.ofString "f")), .v 45078 (sv (Plan.owner p ++ "." ++ "f")), .c 45079 20 (relE (Plan.num p (Plan.owner p ++ "." ++ "f"))), .v 0 (.lst [inE (relE (p.fnum "g")) (ahE (relE (p.num p.owner)) (relE (p.fnum "g"))), thisE p "g" c, manyE "no" (meE (relE (p.fnum "f")) (relE (p.fnum "g")))])]) (fun _ e => (ob t1 (ob s3 (ob (r0 (c) ([a, b]) (Plan.owner p ++ "." ++ "g") (n2)) (ob en (obd wi (ob (r0 (c + cntP p) ([a, b]) (Plan.owner p) (n3)) (ob (ea (c + cntP p) ([a, b])) (ob oo (ob t1 (ob (Eq.refl (some (V.str (Str.ofString "f")))) (ob t2 (ob (r0 (c + cntP p) ([a, b, Cell.list [V.tup [V.str (Str.ofString "in"), relE (Plan.num p (Plan.owner p ++ "." ++ "g")), V.tup [V.str (Str.ofString "ahead"), relE (Plan.num p (Plan.owner p)), relE (Plan.num p (Plan.owner p ++ "." ++ "g"))]], thisE p "g" c]]) (Plan.owner p ++ "." ++ "f") (n1)) (chk_of op (ob (fr_loc (σ := bas fd p (c + cntP p) [a, b, .list [inE (relE (p.fnum "g")) (ahE (relE (p.num p.owner)) (relE (p.fnum "g"))), thisE p "g" c, manyE "no" (meE (relE (p.fnum "f")) (relE (p.fnum "g")))]]) (n := 12) (j := 12) rfl (by decide) pl) e))))))))))))))) (by kernel_rfl)
end
section
variable {C : Cx} {fd a g b h : Cell} {p : Plan} {x y m f : String} {c : Nat} {τ σ : List Cell} {k : Nat} {t : Bool} {fs acc : List V}
theorem frd_pl {n j : Nat} {X : V} (h : X.pl 31 = true) : frd σ n (j + 1) X = some X := by
  cases X with
  | tup l => exact frt h
  | lst l => exact frls h
  | dct l => exact nomatch h
  | loc i => exact nomatch h
  | obj c i => exact nomatch h
  | _ => rfl
theorem i_joined (C : Cx) (σ : List Cell) (ne : fs ≠ []) (l : fs.length ≤ 1000) (hp : (joinF fs).pl 31 = true) : Con C tab 20 f_joined [.lst fs] σ (joinF fs) σ := by
  cases fs with
  | nil => exact absurd rfl ne
  | cons X r => cases r with
    | nil => exact con_of (q := [.v 0 X]) (fun _ e => ob (frd_pl (σ := σ) (n := σ.length) (j := 8) hp) e) (by kernel_rfl)
    | cons Y r => exact con_of (q := [.w 7039 (.int ((X :: Y :: r).length : Nat)) σ, .b 7044 false, .w 7073 (.tup (X :: Y :: r)) σ, .v 0 (andE (X :: Y :: r))]) (fun _ e => ob (len_of (σ := σ) (d := .lst (X :: Y :: r)) rfl (le5 l)) (ob (congrArg some (beq_eq_false_iff_ne.mpr fun e => absurd (Int.ofNat.inj e) (Nat.ne_of_gt (Nat.succ_lt_succ (Nat.zero_lt_succ _)))) : evCop .Eq (.int ((X :: Y :: r).length : Nat)) (.int 1) σ = some false) (ob (lt_of (σ := σ) (d := .lst (X :: Y :: r)) (g := fun xs => (V.tup xs, σ)) rfl (le5 l)) (ob (frd_pl (σ := σ) (n := σ.length) (j := 8) hp) e)))) (by kernel_rfl)
def labS (p : Plan) (x : String) : V := .tup [sv ("sig " ++ x), joinF (sigF p x (muS p x))]
def labsS (p : Plan) (ys : List String) : List V := ys.flatMap fun x => cond (sigF p x (muS p x)).isEmpty [] [labS p x]
theorem labs_len (p : Plan) (ys : List String) : (labsS p ys).length ≤ ys.length := by
  induction ys with
  | nil => exact Nat.le_refl _
  | cons x ys ih =>
    show (cond _ [] [labS p x] ++ labsS p ys).length ≤ _
    rw [List.length_append, Nat.add_comm]
    exact Nat.add_le_add ih (by cases (sigF p x (muS p x)).isEmpty <;> exact Nat.le_of_ble_eq_true rfl)
theorem labs_snoc (p : Plan) (ys : List String) (x : String) : labsS p (ys ++ [x]) = labsS p ys ++ cond (sigF p x (muS p x)).isEmpty [] [labS p x] := List.flatMap_append.trans (congrArg (labsS p ys ++ ·) (List.append_nil _))
theorem PlanOk.own (hp : PlanOk p) : p.owner ∈ p.names := own_mem hp.ow
theorem PlanOk.fact4 (hp : PlanOk p) : p.fact = "" ∨ Many4 p.fact := hp.fact.imp id fun h => h.elim (fun h => .inr (.inr (.inr h))) .inl
theorem inF_len (p : Plan) (x : String) (ys : List String) : (inF p x ys).length ≤ 1 := by
  unfold inF
  cases ys.isEmpty <;> exact Nat.le_of_ble_eq_true rfl
theorem c_len {b : Bool} {l : List V} {n : Nat} (h : l.length ≤ n) : (cond b [] l).length ≤ n ∧ (cond b l []).length ≤ n := by
  cases b with
  | true => exact ⟨Nat.zero_le _, h⟩
  | false => exact ⟨h, Nat.zero_le _⟩
theorem a_len {l l' : List V} {m n : Nat} (h : l.length ≤ m) (h' : l'.length ≤ n) : (l ++ l').length ≤ m + n := Nat.le_trans (Nat.le_of_eq List.length_append) (Nat.add_le_add h h')
theorem sig_lens (p : Plan) (x mu : String) : (mulF p x mu).length ≤ 1 ∧ (cond (x == "A") (chF p) []).length ≤ 2 ∧ (facF p x).length ≤ 1 :=
  ⟨(c_len (Nat.le_refl 1)).1, (c_len (a_len (c_len (Nat.le_refl 1)).1 (c_len (inF_len ..)).2)).2, (c_len (c_len (Nat.le_refl 1)).1).2⟩
theorem sig_join (C : Cx) (hp : PlanOk p) (hx : x ∈ p.names) (ne : sigF p x (muS p x) ≠ []) (k : Nat) : (joinF (sigF p x (muS p x))).pl (k + 20 + 2) = true := by
  have l := sig_lens p x (muS p x)
  exact ((sig_fts (C := C) (σ := []) (e := .dct []) (good0 hp.own) hx hp.part (hp.mu x) rfl hp.fact4).join ne (Nat.le_trans (a_len (inF_len ..) (a_len l.1 (a_len l.2.1 l.2.2))) (by decide)) (by decide)).2 k
abbrev imB : List Stmt := f_implied.body
abbrev imN : Nk := f_implied.sc.names
abbrev imM : M := [(S "found", .loc 10), (S "signatures", .obj 630 1), (S "opener", .obj 463 8)]
abbrev lkI : List Nat := [0, 1, 2, 3, 4, 5, 6, 7, 9]
theorem app_10 (fd : Cell) (p : Plan) (c : Nat) (τ : List Cell) (d : V) (l : acc.length ≤ 100) : evMeth lkI .append (.loc 10) [d] (bas fd p c (.list acc :: τ)) = some (.none, bas fd p c (.list (acc ++ [d]) :: τ)) := by
  show cond (Nat.ble acc.length 50000) (some (V.none, bas fd p c (.list (acc ++ [d]) :: τ))) none = _
  rw [Nat.ble_eq_true_of_le (Nat.le_trans l (by decide))]
  rfl
theorem add_lst (s : List Cell) {a b : List V} (l : a.length + b.length ≤ 1000) : evBop .Add (.lst a) (.lst b) s = some (.lst (a ++ b)) := grd_of (Nat.ble_eq_true_of_le (le5 l))
theorem gt_0 (s : List Cell) (T : List V) : evCop .Gt (.int T.length) (.int 0) s = some (!T.isEmpty) := by
  cases T with
  | nil => rfl
  | cons f F => exact congrArg some (decide_eq_true (Int.ofNat_lt.mpr (Nat.zero_lt_succ F.length)) : decide ((0 : Int) < ((F.length + 1 : Nat) : Int)) = true)
theorem im_run {P Q PQ F T : List V} {X : V} {m : M} (pl : Con C tab 60 f_place_formulas [.obj 630 1, .obj 463 8, sv x] (bas fd p 0 [.list acc]) (.lst P) (bas fd p 0 [.list acc])) (ch : Con C tab 80 f_children_formulas [.obj 630 1, .obj 463 8, sv x] (bas fd p 0 [.list acc]) (.lst Q) (bas fd p 0 [.list acc])) (fa : Con C tab 140 f_fact_formulas [.obj 630 1, .obj 463 8, sv x] (bas fd p 0 [.list acc]) (.lst F) (bas fd p 0 [.list acc]))
    (a1 : evBop .Add (.lst P) (.lst Q) (bas fd p 0 [.list acc]) = some (.lst PQ)) (a2 : evBop .Add (.lst PQ) (.lst F) (bas fd p 0 [.list acc]) = some (.lst T)) (l : T.length ≤ 1000) (s1 : evBop .Add (sv "sig ") (sv x) (bas fd p 0 [.list acc]) = some (sv ("sig " ++ x))) (jo : T.isEmpty = false → Con C tab 20 f_joined [.lst T] (bas fd p 0 [.list acc]) X (bas fd p 0 [.list acc])) (la : acc.length ≤ 100) (hm : NestT (S "name") (S "formulas") imM (sv x) m) :
    To2 (fun q => (ev C tab 238).x lkI imN (thenA (stA imB 1)) q m (bas fd p 0 [.list acc])) .next ((S "formulas", .lst T) :: (S "name", sv x) :: imM) (bas fd p 0 [.list (acc ++ cond T.isEmpty [] [.tup [sv ("sig " ++ x), X]])]) := by
  have hl := len_of (σ := bas fd p 0 [.list acc]) (d := .lst T) rfl (le5 l)
  have hg := gt_0 (bas fd p 0 [.list acc]) T
  have ap := app_10 fd p 0 [] (.tup [sv ("sig " ++ x), X]) la
  cases hb : T.isEmpty with
  | true =>
    rw [hb] at hg
    rw [show acc ++ cond true [] [.tup [sv ("sig " ++ x), X]] = acc from List.append_nil acc]
    cases hm with
    | a => exact body_of (q := [.c 50059 60 (V.lst P), .c 50105 80 (V.lst Q), .v 50105 (V.lst PQ), .c 51069 140 (V.lst F), .v 51069 (V.lst T), .w 52024 (V.int T.length) (bas fd p 0 [Cell.list acc]), .b 52028 false]) (fun _ e => (ob pl (ob ch (ob a1 (ob fa (ob a2 (ob hl (ob hg e)))))))) fun k => by kernel_rfl
    | b w => exact body_of (q := [.c 50059 60 (V.lst P), .c 50105 80 (V.lst Q), .v 50105 (V.lst PQ), .c 51069 140 (V.lst F), .v 51069 (V.lst T), .w 52024 (V.int T.length) (bas fd p 0 [Cell.list acc]), .b 52028 false]) (fun _ e => (ob pl (ob ch (ob a1 (ob fa (ob a2 (ob hl (ob hg e)))))))) fun k => by kernel_rfl
  | false =>
    rw [hb] at hg
    have jo := jo hb
    cases hm with
    | a => exact body_of (q := [.c 50059 60 (V.lst P), .c 50105 80 (V.lst Q), .v 50105 (V.lst PQ), .c 51069 140 (V.lst F), .v 51069 (V.lst T), .w 52024 (V.int T.length) (bas fd p 0 [Cell.list acc]), .b 52028 true, .v 53039 (sv ("sig " ++ x)), .c 53057 20 (X), .w 53059 (V.none) (bas fd p 0 [Cell.list (acc ++ [V.tup [sv ("sig " ++ x), X]])])]) (fun _ e => (ob pl (ob ch (ob a1 (ob fa (ob a2 (ob hl (ob hg (ob s1 (ob jo (ob ap e))))))))))) fun k => by kernel_rfl
    | b w => exact body_of (q := [.c 50059 60 (V.lst P), .c 50105 80 (V.lst Q), .v 50105 (V.lst PQ), .c 51069 140 (V.lst F), .v 51069 (V.lst T), .w 52024 (V.int T.length) (bas fd p 0 [Cell.list acc]), .b 52028 true, .v 53039 (sv ("sig " ++ x)), .c 53057 20 (X), .w 53059 (V.none) (bas fd p 0 [Cell.list (acc ++ [V.tup [sv ("sig " ++ x), X]])])]) (fun _ e => (ob pl (ob ch (ob a1 (ob fa (ob a2 (ob hl (ob hg (ob s1 (ob jo (ob ap e))))))))))) fun k => by kernel_rfl
theorem im_turn {m : M} (hp : PlanOk p) (hx : x ∈ p.names) (l : acc.length ≤ 100) (hm : NestT (S "name") (S "formulas") imM (sv x) m) : To2 (fun q => (ev C tab 238).x lkI imN (thenA (stA imB 1)) q m (bas fd p 0 [.list acc])) .next ((S "formulas", .lst (sigF p x (muS p x))) :: (S "name", sv x) :: imM) (bas fd p 0 [.list (acc ++ cond (sigF p x (muS p x)).isEmpty [] [labS p x])]) := by
  have ls := sig_lens p x (muS p x)
  have lP := a_len (inF_len p x (supL p x)) ls.1
  have lT := a_len (a_len lP ls.2.1) ls.2.2
  have e : (inF p x (supL p x) ++ mulF p x (muS p x)) ++ cond (x == "A") (chF p) [] ++ facF p x = sigF p x (muS p x) := (List.append_assoc ..).trans (List.append_assoc ..)
  rw [e] at lT
  exact im_run (i_place C fd 0 (.list acc) hx (hp.mu x) hp.part) (i_ch C fd 0 (.list acc) hx) (i_fact C fd 0 (.list acc) hp hx) (add_lst (bas fd p 0 [.list acc]) (Nat.le_trans (Nat.add_le_add lP ls.2.1) (by decide))) (e ▸ add_lst (bas fd p 0 [.list acc]) (Nat.le_trans (Nat.add_le_add (a_len lP ls.2.1) ls.2.2) (by decide))) (Nat.le_trans lT (by decide))
    (add_strs (a := "sig ") (b := x) (s := bas fd p 0 [.list acc]) (by rcases name_cases hx with rfl | rfl | rfl | rfl | rfl <;> rw [len_lit, len_lit] <;> decide)) (fun hb => have ne := fun e => (by rw [e] at hb; exact nomatch hb); i_joined C (bas fd p 0 [.list acc]) ne (Nat.le_trans lT (by decide)) (sig_join C hp hx ne 9)) l hm
end
section
variable {C : Cx} {fd : Cell} {p : Plan} {x y m f : String} {c : Nat} {τ σ : List Cell} {k : Nat} {fs acc : List V} {w v : V}
def labF (p : Plan) (f : String) (c : Nat) : V := .tup [sv ("field " ++ p.owner ++ "." ++ f), joinF (fieldF p f c)]
abbrev imM1 (w v : V) : M := (S "formulas", w) :: (S "name", v) :: imM
theorem cnt_le (p : Plan) : 0 + cntP p ≤ 2 := by
  unfold cntP cR
  rw [Nat.zero_add]
  cases decide ((p.kind : Int) < 3) <;> cases marked p.right <;> cases marked p.left <;> exact Nat.le_of_ble_eq_true rfl
theorem fld_len (p : Plan) (f : String) (c : Nat) : (fieldF p f c).length ≤ 1000 := Nat.le_trans (a_len (Nat.le_refl 1) (a_len (Nat.le_refl 1) (c_len (Nat.le_refl 1)).1)) (by decide)
theorem fld_pl (C : Cx) (hp : PlanOk p) (hf : f ∈ p.fields) (c k : Nat) : (joinF (fieldF p f c)).pl (k + 20 + 2) = true :=
  ((field_fts (C := C) (σ := []) (e := .dct []) (good0 hp.own) hf rfl hp.mult hp.right hp.left (bound_len p f c).1 (bound_len p f c).2).join (List.cons_ne_nil _ _) (fld_len p f c) (by decide)).2 k
theorem fld_join (C : Cx) (σ : List Cell) (hp : PlanOk p) (hf : f ∈ p.fields) (c : Nat) : Con C tab 20 f_joined [.lst (fieldF p f c)] σ (joinF (fieldF p f c)) σ := i_joined C σ (List.cons_ne_nil _ _) (fld_len p f c) (fld_pl C hp hf c 9)
theorem im_flf (hp : PlanOk p) (e : fldsV p = [fldE p "f"]) (la : acc.length ≤ 50) : To2 (Seg (ev C tab 238) lkI imN 54032 (imB.drop 2) (imM1 w v) (bas fd p 0 [.list acc])) (.ret (.loc 10)) ((S "label", sv ("field " ++ p.owner ++ "." ++ "f")) :: (S "field", fldE p "f") :: (S "k", .int ((0 : Nat) : Int)) :: (S "fields", .loc 11) :: imM1 w v) (bas fd p (0 + cntP p) [.list (acc ++ [labF p "f" 0]), .list [fldE p "f"]]) := by
  have fl : Con C tab 20 m_Signatures_fields [.obj 630 1] (bas fd p 0 [.list acc]) (.loc 11) (bas fd p 0 [.list acc, .list [fldE p "f"]]) ∧ Keep lkI (bas fd p 0 [.list acc]) (bas fd p 0 [.list acc, .list [fldE p "f"]]) := b_flds C fd 0 [.list acc] lkI e
  have ol := own_1 p
  have l1 : (S ("field " ++ p.owner)).length = 7 := by rw [len_lit, String.length_append, ol]; rfl
  have l2 : (S ("field " ++ p.owner ++ ".")).length = 8 := by rw [len_lit, String.length_append, String.length_append, ol]; rfl
  have s1 := add_strs (a := "field ") (b := p.owner) (s := bas fd p 0 [.list acc, .list [fldE p "f"]]) (by rw [len_lit, len_lit, ol]; decide)
  have s2 := add_strs (a := "field " ++ p.owner) (b := ".") (s := bas fd p 0 [.list acc, .list [fldE p "f"]]) (by rw [l1]; decide)
  have s3 := add_strs (a := "field " ++ p.owner ++ ".") (b := "f") (s := bas fd p 0 [.list acc, .list [fldE p "f"]]) (by rw [l2]; decide)
  have ff : Con C tab 200 f_field_formulas [.obj 463 8, fldE p "f", .lst []] (bas fd p 0 [.list acc, .list [fldE p "f"]]) (.lst (fieldF p "f" 0)) (bas fd p (0 + cntP p) [.list acc, .list [fldE p "f"]]) ∧ Keep (11 :: lkI) (bas fd p 0 [.list acc, .list [fldE p "f"]]) (bas fd p (0 + cntP p) [.list acc, .list [fldE p "f"]]) := ⟨i_fieldf C fd (.list acc) (.list [fldE p "f"]) hp hp.own (Nat.zero_le _), keep_bas _ (by decide) fd p 0 _ _⟩
  have jf := fld_join C (bas fd p (0 + cntP p) [.list acc, .list [fldE p "f"]]) hp (f_mem p) 0
  have af := app_10 fd p (0 + cntP p) [.list [fldE p "f"]] (labF p "f" 0) (Nat.le_trans la (by decide))
  exact seg_of (q := [.d 54032 20 (V.loc 11) (bas fd p 0 [Cell.list acc, Cell.list [fldE p "f"]]), .v 56035 (V.str (Str.ofString (Plan.owner p))), .v 56035 (sv ("field " ++ Plan.owner p)), .v 56041 (sv ("field " ++ Plan.owner p ++ ".")), .v 56052 (V.str (Str.ofString "f")), .v 56052 (sv ("field " ++ Plan.owner p ++ "." ++ "f")), .d 57077 200 (V.lst (fieldF p "f" 0)) (bas fd p (0 + cntP p) [Cell.list acc, Cell.list [fldE p "f"]]), .c 57078 20 (joinF (fieldF p "f" 0)), .w 57080 (V.none) (bas fd p (0 + cntP p) [Cell.list (acc ++ [V.tup [sv ("field " ++ Plan.owner p ++ "." ++ "f"), joinF (fieldF p "f" 0)]]), Cell.list [fldE p "f"]])]) (fun _ e => (obd fl (ob (Eq.refl (some (V.str (Str.ofString (Plan.owner p))))) (ob s1 (ob s2 (ob (Eq.refl (some (V.str (Str.ofString "f")))) (ob s3 (obd ff (ob jf (ob af e)))))))))) fun k => by kernel_rfl
theorem im_flg (hp : PlanOk p) (e : fldsV p = [fldE p "f", fldE p "g"]) (ht : p.two = true) (la : acc.length ≤ 50) : To2 (Seg (ev C tab 238) lkI imN 54032 (imB.drop 2) (imM1 w v) (bas fd p 0 [.list acc])) (.ret (.loc 10)) ((S "label", sv ("field " ++ p.owner ++ "." ++ "g")) :: (S "field", fldE p "g") :: (S "k", .int ((0 : Nat) + 1 : Int)) :: (S "fields", .loc 11) :: imM1 w v) (bas fd p (0 + cntP p + cntP p) [.list ((acc ++ [labF p "f" 0]) ++ [labF p "g" (0 + cntP p)]), .list [fldE p "f", fldE p "g"]]) := by
  have fl : Con C tab 20 m_Signatures_fields [.obj 630 1] (bas fd p 0 [.list acc]) (.loc 11) (bas fd p 0 [.list acc, .list [fldE p "f", fldE p "g"]]) ∧ Keep lkI (bas fd p 0 [.list acc]) (bas fd p 0 [.list acc, .list [fldE p "f", fldE p "g"]]) := b_flds C fd 0 [.list acc] lkI e
  have ol := own_1 p
  have l1 : (S ("field " ++ p.owner)).length = 7 := by rw [len_lit, String.length_append, ol]; rfl
  have l2 : (S ("field " ++ p.owner ++ ".")).length = 8 := by rw [len_lit, String.length_append, String.length_append, ol]; rfl
  have s1 := add_strs (a := "field ") (b := p.owner) (s := bas fd p 0 [.list acc, .list [fldE p "f", fldE p "g"]]) (by rw [len_lit, len_lit, ol]; decide)
  have s2 := add_strs (a := "field " ++ p.owner) (b := ".") (s := bas fd p 0 [.list acc, .list [fldE p "f", fldE p "g"]]) (by rw [l1]; decide)
  have s3 := add_strs (a := "field " ++ p.owner ++ ".") (b := "f") (s := bas fd p 0 [.list acc, .list [fldE p "f", fldE p "g"]]) (by rw [l2]; decide)
  have ff : Con C tab 200 f_field_formulas [.obj 463 8, fldE p "f", .lst []] (bas fd p 0 [.list acc, .list [fldE p "f", fldE p "g"]]) (.lst (fieldF p "f" 0)) (bas fd p (0 + cntP p) [.list acc, .list [fldE p "f", fldE p "g"]]) ∧ Keep (11 :: lkI) (bas fd p 0 [.list acc, .list [fldE p "f", fldE p "g"]]) (bas fd p (0 + cntP p) [.list acc, .list [fldE p "f", fldE p "g"]]) := ⟨i_fieldf C fd (.list acc) (.list [fldE p "f", fldE p "g"]) hp hp.own (Nat.zero_le _), keep_bas _ (by decide) fd p 0 _ _⟩
  have jf := fld_join C (bas fd p (0 + cntP p) [.list acc, .list [fldE p "f", fldE p "g"]]) hp (f_mem p) 0
  have af := app_10 fd p (0 + cntP p) [.list [fldE p "f", fldE p "g"]] (labF p "f" 0) (Nat.le_trans la (by decide))
  have hg : "g" ∈ p.fields := by unfold Plan.fields; rw [ht]; exact .tail _ (.head _)
  have s4 := add_strs (a := "field " ++ p.owner ++ ".") (b := "g") (s := bas fd p 0 [.list acc, .list [fldE p "f", fldE p "g"]]) (by rw [l2]; decide)
  have fg : Con C tab 200 f_field_formulas [.obj 463 8, fldE p "g", .lst [fldE p "f"]] (bas fd p (0 + cntP p) [.list (acc ++ [labF p "f" 0]), .list [fldE p "f", fldE p "g"]]) (.lst (fieldF p "g" (0 + cntP p))) (bas fd p (0 + cntP p + cntP p) [.list (acc ++ [labF p "f" 0]), .list [fldE p "f", fldE p "g"]]) ∧ Keep (11 :: lkI) (bas fd p (0 + cntP p) [.list (acc ++ [labF p "f" 0]), .list [fldE p "f", fldE p "g"]]) (bas fd p (0 + cntP p + cntP p) [.list (acc ++ [labF p "f" 0]), .list [fldE p "f", fldE p "g"]]) := ⟨i_fieldg C fd (.list (acc ++ [labF p "f" 0])) (.list [fldE p "f", fldE p "g"]) hp hp.own ht (cnt_le p), keep_bas _ (by decide) fd p (0 + cntP p) _ _⟩
  have jg := fld_join C (bas fd p (0 + cntP p + cntP p) [.list (acc ++ [labF p "f" 0]), .list [fldE p "f", fldE p "g"]]) hp hg (0 + cntP p)
  have ag := app_10 (acc := acc ++ [labF p "f" 0]) fd p (0 + cntP p + cntP p) [.list [fldE p "f", fldE p "g"]] (labF p "g" (0 + cntP p)) (Nat.le_trans (a_len la (Nat.le_refl 1)) (by decide))
  exact seg_of (q := [.d 54032 20 (V.loc 11) (bas fd p 0 [Cell.list acc, Cell.list [fldE p "f", fldE p "g"]]), .v 56035 (V.str (Str.ofString (Plan.owner p))), .v 56035 (sv ("field " ++ Plan.owner p)), .v 56041 (sv ("field " ++ Plan.owner p ++ ".")), .v 56052 (V.str (Str.ofString "f")), .v 56052 (sv ("field " ++ Plan.owner p ++ "." ++ "f")), .d 57077 200 (V.lst (fieldF p "f" 0)) (bas fd p (0 + cntP p) [Cell.list acc, Cell.list [fldE p "f", fldE p "g"]]), .c 57078 20 (joinF (fieldF p "f" 0)), .w 57080 (V.none) (bas fd p (0 + cntP p) [Cell.list (acc ++ [V.tup [sv ("field " ++ Plan.owner p ++ "." ++ "f"), joinF (fieldF p "f" 0)]]), Cell.list [fldE p "f", fldE p "g"]]), .v 56035 (V.str (Str.ofString (Plan.owner p))), .v 56035 (sv ("field " ++ Plan.owner p)), .v 56041 (sv ("field " ++ Plan.owner p ++ ".")), .v 56052 (V.str (Str.ofString "g")), .v 56052 (sv ("field " ++ Plan.owner p ++ "." ++ "g")), .d 57077 200 (V.lst (fieldF p "g" (0 + cntP p))) (bas fd p (0 + cntP p + cntP p) [Cell.list (acc ++ [V.tup [sv ("field " ++ Plan.owner p ++ "." ++ "f"), joinF (fieldF p "f" 0)]]), Cell.list [fldE p "f", fldE p "g"]]), .c 57078 20 (joinF (fieldF p "g" (0 + cntP p))), .w 57080 (V.none) (bas fd p (0 + cntP p + cntP p) [Cell.list (acc ++ [V.tup [sv ("field " ++ Plan.owner p ++ "." ++ "f"), joinF (fieldF p "f" 0)]] ++ [V.tup [sv ("field " ++ Plan.owner p ++ "." ++ "g"), joinF (fieldF p "g" (0 + cntP p))]]), Cell.list [fldE p "f", fldE p "g"]])]) (fun _ e => (obd fl (ob (Eq.refl (some (V.str (Str.ofString (Plan.owner p))))) (ob s1 (ob s2 (ob (Eq.refl (some (V.str (Str.ofString "f")))) (ob s3 (obd ff (ob jf (ob af (ob (Eq.refl (some (V.str (Str.ofString (Plan.owner p))))) (ob s1 (ob s2 (ob (Eq.refl (some (V.str (Str.ofString "g")))) (ob s4 (obd fg (ob jg (ob ag e)))))))))))))))))) fun k => by kernel_rfl
inductive Im1 (fd : Cell) (p : Plan) (xs : List String) (m : M) (s : List Cell) : Prop
  | mk (ys : List String) (es : s = bas fd p 0 [.list (labsS p ys)]) (ln : p.names = ys ++ xs) (hm : (ys = [] ∧ m = imM) ∨ ∃ w v, m = imM1 w v)
theorem im_for (hp : PlanOk p) : ∃ w v, ForP (ev C tab 238) lkI imN (tgA (stA imB 1)) (thenA (stA imB 1)) (strsV p.names) imM (bas fd p 0 [.list []]) .next (imM1 w v) (bas fd p 0 [.list (labsS p p.names)]) := by
  obtain ⟨fl, m', s', ⟨rfl, i⟩, t⟩ := for_ex (r := ev C tab 238) (lk := lkI) (nk := imN) (body := thenA (stA imB 1)) (y := S "name") (p := (tgA (stA imB 1)).pos) (g := sv) (I := Im1 fd p) (E := fun f' m s => f' = .next ∧ Im1 fd p [] m s) (by kernel_rfl) (fun m s i => ⟨rfl, i⟩) (fun x xs m s i => by
    obtain ⟨ys, rfl, ln, hm⟩ := i
    have l : (labsS p ys).length ≤ 100 := Nat.le_trans (labs_len p ys) (Nat.le_trans (Nat.le_trans (Nat.le_add_right ..) (Nat.le_of_eq (List.length_append.symm.trans (congrArg _ ln.symm)))) (Nat.le_trans (Nat.le_trans (Nat.le_trans (Nat.le_add_right ..) (Nat.le_of_eq List.length_append.symm)) (nm_len p)) (by decide)))
    have hn : NestM (S "name") (S "formulas") imM m := by
      rcases hm with ⟨_, rfl⟩ | ⟨w, v, rfl⟩
      · exact .a
      · exact .c w v
    refine ⟨.next, _, _, im_turn hp (ln ▸ List.mem_append_right _ (.head _)) l (hn.turn (by kernel_rfl) (by kernel_rfl) (sv x)), ⟨ys ++ [x], ?_, ln.trans (List.append_assoc ys [x] xs).symm, .inr ⟨_, _, rfl⟩⟩⟩
    rw [labs_snoc]) p.names ⟨[], rfl, rfl, .inl ⟨rfl, rfl⟩⟩
  obtain ⟨ys, rfl, ln, hm⟩ := i
  rw [List.append_nil] at ln
  subst ln
  obtain ⟨w, v, rfl⟩ := hm.resolve_left fun h => List.cons_ne_nil _ _ h.1
  exact ⟨w, v, t []⟩
def labV (p : Plan) : List V := labsS p p.names ++ cond p.two [labF p "f" 0, labF p "g" (0 + cntP p)] [labF p "f" 0]
def cntV (p : Plan) : Nat := cond p.two (0 + cntP p + cntP p) (0 + cntP p)
theorem labV_pl (C : Cx) (hp : PlanOk p) : V.pls 30 (labV p) = true := by
  refine List.all_eq_true.mpr fun d m => ?_
  rcases List.mem_append.mp m with m | m
  · obtain ⟨x, hx, m⟩ := List.mem_flatMap.mp m
    cases h : (sigF p x (muS p x)).isEmpty with
    | true => rw [h] at m; exact absurd m List.not_mem_nil
    | false =>
      rw [h] at m
      rw [List.mem_singleton.mp m]
      exact (Bool.and_true _).trans (sig_join C hp hx (fun e => by rw [e] at h; exact nomatch h) 7)
  · have f := fun {f} (hf : f ∈ p.fields) c => (Bool.and_true _).trans (fld_pl C hp hf c 7)
    cases h : p.two with
    | true =>
      rw [h] at m
      rcases List.mem_cons.mp m with rfl | m
      · exact f (f_mem p) 0
      · rw [List.mem_singleton.mp m]
        exact f (by unfold Plan.fields; rw [h]; exact .tail _ (.head _)) (0 + cntP p)
    | false =>
      rw [h] at m
      rw [List.mem_singleton.mp m]
      exact f (f_mem p) 0
abbrev FinI (fd : Cell) (p : Plan) (v : V) (σ' : List Cell) : KX := retK fun q d s => ask (An.pk 0) q (dcell s 8) fun q kvs => chk (plks 10 kvs) (ask (An.pv 0) q (frd s 10 9 d) fun q d => d = v ∧ (bas fd p 0 []).set 8 (.dict kvs) = σ')
theorem i_implied (C : Cx) (fd : Cell) (hp : PlanOk p) : Con C tab 240 f_implied [.obj 630 1, .obj 463 8] (bas fd p 0 []) (.lst (labV p)) (bas fd p (cntV p) []) := by
  obtain ⟨w, v, t⟩ := im_for (C := C) (fd := fd) hp
  have la : (labsS p p.names).length ≤ 50 := Nat.le_trans (labs_len p p.names) (Nat.le_trans (Nat.le_trans (Nat.le_trans (Nat.le_add_right ..) (Nat.le_of_eq List.length_append.symm)) (nm_len p)) (by decide))
  have pl := labV_pl C hp
  have go : ∀ {m' : M} {τ : List Cell} {L : List V} {c' : Nat}, V.pls 30 L = true → To2 (Seg (ev C tab 238) lkI imN 54032 (imB.drop 2) (imM1 w v) (bas fd p 0 [.list (labsS p p.names)])) (.ret (.loc 10)) m' (bas fd p c' (.list L :: τ)) → Con C tab 240 f_implied [.obj 630 1, .obj 463 8] (bas fd p 0 []) (.lst L) (bas fd p c' []) := fun {m' τ L c'} hL a2 => by
    have a1 : To2 (Seg (ev C tab 239) lkI imN 49059 (imB.drop 1) imM (bas fd p 0 [.list []])) (.ret (.loc 10)) m' (bas fd p c' (.list L :: τ)) := seg_seq a2 (q1 := fun q => .c 49034 20 (.lst (strsV p.names)) :: .f 49059 .next (imM1 w v) (bas fd p 0 [.list (labsS p p.names)]) :: .m 54032 :: q) (fun _ e => ob (s_names (C := C) (sAt fd p 0 [.list []])) (ob t e)) fun k q => by kernel_rfl
    have a0 : To2 (Seg (ev C tab 240) lkI imN 48014 imB [(S "signatures", .obj 630 1), (S "opener", .obj 463 8)] (bas fd p 0 [])) (.ret (.loc 10)) m' (bas fd p c' (.list L :: τ)) := seg_x a1 (q1 := fun q => .m 49059 :: q) (fun _ e => e) fun X k q => by kernel_rfl
    exact con_x (FinI fd p (.lst L) (bas fd p c' [])) a0 (by
      show chk (plks 10 (opL .none (.lst (itemsL p)) c')) (opt (frd (bas fd p c' (.list L :: τ)) 10 9 (.loc 10)) fun d => d = .lst L ∧ bas fd p c' [] = bas fd p c' [])
      rw [op_low p c' 0, show frd (bas fd p c' (.list L :: τ)) 10 9 (.loc 10) = some (.lst L) from fr_loc rfl (by decide) hL]
      exact ⟨rfl, rfl⟩) fun X q => by kernel_rfl
  unfold labV at pl ⊢
  unfold cntV
  rcases fields_cases p with h | h
  · have e : fldsV p = [fldE p "f"] := by unfold fldsV fieldsG; rw [h]; rfl
    cases ht : p.two with
    | true => exact absurd h (by unfold Plan.fields; rw [ht]; decide)
    | false =>
      rw [ht] at pl
      exact go pl (im_flf hp e la)
  · have e : fldsV p = [fldE p "f", fldE p "g"] := by unfold fldsV fieldsG; rw [h]; rfl
    cases ht : p.two with
    | false => exact absurd h (by unfold Plan.fields; rw [ht]; decide)
    | true =>
      rw [ht] at pl
      have a2 := im_flg (C := C) (fd := fd) (w := w) (v := v) hp e ht la
      rw [List.append_assoc] at a2
      exact go pl a2
end
section
variable {C : Cx} {fd : Cell} {p : Plan} {x y m f : String} {c : Nat} {τ σ : List Cell} {k : Nat} {γ : String → Rel} {α : String → List Int} {β : String → Rel}
theorem flat_le {f : String → List Int} {k : Nat} {l : List String} : (∀ y ∈ l, (f y).length ≤ k) → (l.flatMap f).length ≤ l.length * k := by
  induction l with
  | nil => exact fun _ => Nat.zero_le _
  | cons a l ih =>
    intro h
    rw [List.flatMap_cons, List.length_append, List.length_cons, Nat.succ_mul, Nat.add_comm]
    exact Nat.add_le_add (ih fun y m => h y (.tail _ m)) (h a (.head _))
theorem own_f (p : Plan) : p.owner ++ ".f" = p.owner ++ "." ++ "f" := by
  unfold Plan.owner
  cases p.ow <;> rfl
theorem supL_len (hk : p.part ≤ 2) : (supL p x).length ≤ 2 := by
  unfold supL
  cases ["C", "D"].contains x with
  | true => exact Nat.le_of_ble_eq_true rfl
  | false => exact supG_len hk
theorem Good.rowf (G : Good p γ α β) (hf : f ∈ p.fields) : p.nm.contains (p.owner ++ "." ++ f) = true ∧ (p.nm.map γ)[p.nm.findIdx (· == p.owner ++ "." ++ f)]? = some (β f) := (G.fld f hf).1 ▸ idx_map (fld_nm hf)
theorem lap_sig (C : Cx) (hp : PlanOk p) (G : Good p γ α β) (hx : x ∈ p.names) (ne : sigF p x (muS p x) ≠ []) : ∃ b, (∀ σ, Con C tab 60 f__law_sig_holds [planV p, sv x, hG p γ, .lst (strsV p.nm)] σ (.bool b) σ) ∧ ∀ σ e, getDc σ e = some [] → TrIs C 100 (joinF (sigF p x (muS p x))) (hG p γ) e σ b := by
  have sl := sig_lens p x (muS p x)
  have a4 := fun y (hy : y ∈ p.names) => (G.sig y hy).2.1
  have rf := G.rowf (f_mem p)
  rw [← own_f] at rf
  refine ⟨sigB p α (muS p x) x (β "f"), fun σ => sig_ok G.inst hx (mu_some hx) (hp.mu x).s (hp.fact4.elim (fun h => .inr (.inl h)) Many4.s) hp.part (fun y => sup_names hp.part) ?_ ?_ (fun r m => (len23 (G.row "f" (f_mem p) r m)).1) (Nat.le_trans (G.flen (f_mem p)) (by decide)) ?_ fun h => eq_of_beq h ▸ rf, fun σ e he => ((sig_fts G hx hp.part (hp.mu x) he hp.fact4).join ne (Nat.le_trans (a_len (inF_len ..) (a_len sl.1 (a_len sl.2.1 sl.2.2))) (by decide)) (by decide)).1⟩
  · exact Nat.le_trans (flat_le fun y m => a4 y (sup_names hp.part m)) (Nat.le_trans (Nat.mul_le_mul_right 4 (supL_len hp.part)) (by decide))
  · exact Nat.le_trans (flat_le fun y m => a4 y (kids_names m)) (Nat.le_trans (Nat.mul_le_mul_right 4 (kids_len _)) (by decide))
  · rw [len_lit, len_lit]
    rcases name_cases hx with rfl | rfl | rfl | rfl | rfl <;> decide
theorem fields_2 (hf : f ∈ p.fields) : f = "f" ∨ f = "g" := by
  rcases fields_cases p with h | h <;> rw [h] at hf
  · exact .inl (List.mem_singleton.mp hf)
  · exact (List.mem_cons.mp hf).imp id List.mem_singleton.mp
theorem lap_field (C : Cx) (hp : PlanOk p) (G : Good p γ α β) (hf : f ∈ p.fields) (c : Nat) : ∃ b, (∀ σ, Con C tab 90 f__law_field_holds [planV p, sv f, hG p γ, .lst (strsV p.nm)] σ (.bool b) σ) ∧ ∀ σ e, getDc σ e = some [] → TrIs C 160 (joinF (fieldF p f c)) (hG p γ) e σ b := by
  have r := G.rowf hf
  have rf := G.rowf (f_mem p)
  rw [← own_f] at rf
  have w := fun r m => len23 (G.row f hf r m)
  have ol := own_1 p
  refine ⟨fieldB p α (β f) f (β "f"), fun σ => field_ok G.inst G.own (fun s a => ?_) (fun r m => (w r m).1) (fun r m => (w r m).2.2) (Nat.le_trans (G.flen hf) (by decide)) ?_ ?_ ?_ rf.1 rf.2 r.1 r.2, fun σ e he => ((field_fts G hf he hp.mult hp.right hp.left (bound_len p f c).1 (bound_len p f c).2).join (List.cons_ne_nil _ _) (fld_len p f c) (by decide)).1⟩
  · refine val_ok G.inst (names_A p) (names_B p) hp.mult.s hp.right.s hp.left.s (Nat.le_trans (val_len G hf) (by decide)) (fun r m => (len12 (valW_row G hf (a := a) r m)).2) fun h r m => ?_
    have := valW_row G hf (a := a) r m
    rw [h] at this
    exact List.ne_nil_of_length_pos (by rw [List.length_tail, this]; decide)
  · rw [len_lit, len_lit, ol]; decide
  · rw [len_lit, len_lit, ol]; decide
  · rw [len_lit, len_lit, String.length_append, ol]
    rcases fields_2 hf with rfl | rfl <;> decide
def dueB (p : Plan) (x : String) : Bool := (["C", "D", "E"].contains x || (!(muS p x == "") || (x == p.owner && !(p.fact == "")))) || (x == "A" && decide (cond p.ab (0 : Int) 1 < (kidsL p.kids).length))
theorem emp_app (a b : List V) : (a ++ b).isEmpty = (a.isEmpty && b.isEmpty) := by cases a <;> rfl
theorem emp_c (t : Bool) (a : List V) : (cond t a []).isEmpty = (!t || a.isEmpty) := by cases t <;> rfl
theorem emp_d (t : Bool) (a : V) : (cond t [] [a]).isEmpty = t := by cases t <;> rfl
theorem emp_ch (p : Plan) : (chF p).isEmpty = !decide (cond p.ab (0 : Int) 1 < (kidsL p.kids).length) := by
  unfold chF disF inF
  rw [emp_app, emp_d, emp_c, emp_d]
  generalize p.kids = k
  cases p.ab <;> (match k with
    | 0 => rfl
    | 1 => rfl
    | k + 2 => rfl)
theorem emp_sup (hx : x ∈ p.names) : (supL p x).isEmpty = !["C", "D", "E"].contains x := by
  have hE : x = "E" → 0 < p.part := fun e => by
    refine Nat.pos_of_ne_zero fun z => ?_
    unfold Plan.names at hx
    rw [z] at hx
    subst e
    rcases List.mem_append.mp hx with h | h
    · exact absurd h (by decide)
    · rcases List.mem_append.mp h with h | h
      · rw [← kids_take] at h
        exact absurd (List.mem_of_mem_take h) (by decide)
      · exact absurd h List.not_mem_nil
  unfold supL supG
  rcases name_cases hx with rfl | rfl | rfl | rfl | rfl
  · rfl
  · rfl
  · rfl
  · rfl
  · have := hE rfl
    match h : p.part, this with
    | q + 1, _ => rfl
theorem due_b : ∀ b1 b2 b3 b4 b5 b6 : Bool, (!b1 && (b2 && ((!b5 || !b6) && (!b3 || b4)))) = !((b1 || (!b2 || (b3 && !b4))) || (b5 && b6)) := by decide +kernel
theorem due_sig (hx : x ∈ p.names) : (sigF p x (muS p x)).isEmpty = !dueB p x := by
  unfold sigF inF mulF facF dueB
  rw [emp_app, emp_app, emp_app, emp_d, emp_d, emp_c, emp_c, emp_d, emp_ch, emp_sup hx]
  exact due_b ..
def dueL (p : Plan) : List String := (p.names.filter (dueB p)).map ("sig " ++ ·)
def fldL (p : Plan) : List String := p.fields.map fun f => "field " ++ p.owner ++ "." ++ f
theorem labs_due (p : Plan) (ys : List String) (h : ∀ y ∈ ys, y ∈ p.names) : labsS p ys = (ys.filter (dueB p)).map (labS p) := by
  induction ys with
  | nil => rfl
  | cons y ys ih =>
    show cond _ [] [labS p y] ++ labsS p ys = _
    rw [due_sig (h y (.head _)), List.filter_cons, ih fun z m => h z (.tail _ m)]
    cases dueB p y <;> rfl
end
section
variable {r : Ev} {lk : List Nat} {nk : Nk} {σ : List Cell}
theorem turns_gen {α : Type} {elt tgt : Expr} {ifs : List Expr} {g f : α → V} {mm : α → M} {J : M → Prop} (ht : ∀ x m, J m → tgtN nk tgt (g x) m = some (mm x)) (hj : ∀ x, J (mm x)) {xs : List α} : ∀ {q : Qu} {m : M} {acc : List V} {k : KT}, J m → acc.length + xs.length ≤ 100000 →
    (∀ x ∈ xs, To1 (fun q => evTurn r lk nk elt ifs q (mm x) σ) (some (f x)) σ) → (∀ q m, k q m (acc ++ xs.map f) σ) → evTurns r lk nk true elt tgt ifs (xs.map g) q m σ acc k := by
  induction xs with
  | nil =>
    intro q m acc k _ _ _ hk
    have := hk q m
    rw [List.map_nil, List.append_nil] at this
    exact this
  | cons x xs ih =>
    intro q m acc k hm l h hk
    show opt (tgtN nk tgt (g x) m) _
    rw [ht x m hm]
    refine h x (.head _) (fun q o s => chk (Nat.ble acc.length 100000) (evTurns r lk nk true elt tgt ifs (xs.map g) q (mm x) s (snocO acc o) k)) ?_
    rw [Nat.ble_eq_true_of_le (Nat.le_trans (Nat.le_add_right _ _) l)]
    refine ih (hj x) ?_ (fun z hz => h z (.tail _ hz)) fun q m => ?_
    · show (acc ++ [f x]).length + _ ≤ _
      rw [List.length_append, Nat.add_assoc, Nat.add_comm [f x].length]
      exact l
    · have := hk q m
      rw [List.map_cons] at this
      exact (List.append_assoc acc [f x] (xs.map f)).symm ▸ this
theorem comp_gen {α : Type} (c : Cmp) {m0 : M} {xs : List α} (g f : α → V) (mm : α → M) (J : M → Prop) (ht : ∀ x m, J m → tgtN c.sc.names c.tgt (g x) m = some (mm x)) (hj : ∀ x, J (mm x)) (hm : J m0) (l : xs.length ≤ 100000) (h : ∀ x ∈ xs, To1 (fun q => evTurn r lk c.sc.names c.elt c.ifs q (mm x) σ) (some (f x)) σ) : TurnsP r lk c.sc.names c.elt c.tgt c.ifs (xs.map g) m0 σ (xs.map f) :=
  turns_gen ht hj hm (Nat.le_trans (Nat.le_of_eq (Nat.zero_add _)) l) h fun _ _ => ⟨rfl, rfl⟩
theorem for_gen {α : Type} {body : List Stmt} {tgt : Expr} {g : α → V} {I : List α → M → List Cell → Prop} (turn : ∀ x xs m σ, I (x :: xs) m σ → ∃ m1 m' σ', tgtN nk tgt (g x) m = some m1 ∧ To2 (fun q => r.x lk nk body q m1 σ) .next m' σ' ∧ I xs m' σ') (xs : List α) : ∀ {m : M} {σ : List Cell}, I xs m σ → ∃ m' σ', I [] m' σ' ∧ ∀ q, evFor r lk nk true tgt body (xs.map g) q m σ (FlIs .next m' σ') := by
  induction xs with
  | nil => exact fun h => ⟨_, _, h, fun _ => ⟨rfl, rfl, rfl⟩⟩
  | cons x xs ih =>
    intro m σ h
    obtain ⟨m1, m', σ', e, t, h⟩ := turn x xs m σ h
    obtain ⟨m2, σ2, h, k⟩ := ih h
    refine ⟨m2, σ2, h, fun q => ?_⟩
    show opt (tgtN nk tgt (g x) m) _
    rw [e]
    exact t _ (k [])
end
section
variable {C : Cx} {fd : Cell} {p : Plan} {x y m f : String} {c : Nat} {τ σ : List Cell} {k : Nat}
abbrev laB : List Stmt := f_law.body
abbrev laN : Nk := f_law.sc.names
theorem numd_zip (l : List String) : ∀ k, numd k (strsV l) = (l.zipIdx k).map fun q => .tup [.int q.2, sv q.1] := by
  induction l with
  | nil => exact fun _ => rfl
  | cons x l ih => exact fun k => congrArg (V.tup [.int k, sv x] :: ·) (ih (k + 1))
abbrev nuC : Cmp := cmA (argA 0 (valA (stA laB 5)))
theorem la_num (C : Cx) (σ : List Cell) (nm : List String) (l : nm.length ≤ 1000) : TurnsP (ev C tab 261) [] nuC.sc.names nuC.elt nuC.tgt nuC.ifs (numd 0 (strsV nm)) [] σ (nm.zipIdx.map fun q => .tup [sv q.1, .int q.2]) :=
  numd_zip nm 0 ▸ comp_gen nuC (fun q => .tup [.int q.2, sv q.1]) _ (fun q => [(S "name", sv q.1), (S "r", .int q.2)]) (fun m => m = [] ∨ ∃ i x, m = [(S "name", sv x), (S "r", .int i)]) (fun q m h => by
    rcases h with rfl | ⟨i, x, rfl⟩ <;> kernel_rfl) (fun q => .inr ⟨_, _, rfl⟩) (.inl rfl) (Nat.le_trans (Nat.le_of_eq List.length_zipIdx) (le5 l)) fun q _ => turn_of (q := []) (fun _ e => e) fun k => by kernel_rfl
theorem nu_dict (p : Plan) (σ : List Cell) : evBui .dict [.lst (p.nm.zipIdx.map fun q => .tup [sv q.1, .int q.2])] σ = some (.loc σ.length, σ ++ [.dict (numsL p)]) := by
  have h : (pairsOf (p.nm.zipIdx.map fun q => .tup [sv q.1, .int q.2])).bind (fun ps => grd (Nat.ble ps.length 1000) (fputAll [] ps)) = some (numsL p) := by
    unfold numsL Plan.num Plan.nm Plan.names Plan.owner Plan.fields
    generalize p.kids = k
    generalize he : (if 0 < p.part then ["E"] else []) = e
    have he : e = ["E"] ∨ e = [] := by
      rw [← he]
      split
      · exact .inl rfl
      · exact .inr rfl
    rw [← kids_take k]
    rcases he with rfl | rfl <;> cases p.ow <;> cases p.two <;> (match k with
      | 0 => kernel_rfl
      | 1 => kernel_rfl
      | k + 2 => rw [show ["C", "D"].take (k + 2) = ["C", "D"] from kids_take (k + 2)]; kernel_rfl)
  obtain ⟨ps, e1, e2⟩ := Option.bind_eq_some_iff.mp h
  show (pairsOf _).bind _ = _
  rw [e1]
  show grd _ _ = _
  unfold grd at e2 ⊢
  cases q : Nat.ble ps.length 1000 with
  | false => rw [q] at e2; exact nomatch e2
  | true =>
    rw [q] at e2
    exact congrArg (fun d => some (V.loc σ.length, σ ++ [Cell.dict d])) (Option.some.inj e2)
end
theorem con_x3 {C : Cx} {K j : Nat} {F : FnT} {ds : List V} {σ σ' s : List Cell} {v : V} {f : Fl} {lk : List Nat} {m m0 : M} (K0 : KX) (t : To2 (Seg (ev C tab K) lk F.sc.names j F.body m0 σ) f m s) (fin : K0 [] f m s) (e : ∀ X q, evFn ⟨(ev C tab K).e, (ev C tab K).l, (ev C tab K).b, X⟩ [] F (.m j :: q) ds σ (fun _ d s => d = v ∧ s = σ') = X lk F.sc.names F.body (.m j :: q) m0 σ K0) : Con C tab K F ds σ v σ' := (t _ fin).elim fun q h => run_ok (lk := []) (q := .m j :: q) ((e _ q).mpr h)
section
variable {C : Cx} {fd : Cell} {p : Plan} {x y f : String} {c : Nat} {τ σ : List Cell} {k : Nat}
abbrev niB : List Stmt := m_Names___init__.body
abbrev niN : Nk := m_Names___init__.sc.names
abbrev niM (p : Plan) : M := [(S "self", .obj 463 8), (S "signatures", .obj 630 1), (S "kinds", .none), (S "items", .lst (itemsL p)), (S "numbers", .loc 7)]
abbrev ba8 (fd : Cell) (p : Plan) (τ : List Cell) : List Cell := fd :: .dict (sigD p) :: .dict (entsL p) :: .list (strsV p.names) :: .list [] :: .list (fldsV p) :: .list (strsV p.names) :: .dict (numsL p) :: τ
abbrev niS (fd : Cell) (p : Plan) : List Cell := ba8 fd p [.dict ((opL .none (.lst (itemsL p)) 0).take 5), .dict []]
theorem ni_for (C : Cx) (fd : Cell) (p : Plan) : ∃ m', (m' = niM p ∨ ∃ v, m' = (S "item", v) :: niM p) ∧ ForP (ev C tab 34) [] niN (tgA (stA niB 5)) (thenA (stA niB 5)) (itemsL p) (niM p) (niS fd p) .next m' (niS fd p) := by
  obtain ⟨m', h, t⟩ := for_srch (r := ev C tab 34) (lk := []) (nk := niN) (body := thenA (stA niB 5)) (y := S "item") (p := (tgA (stA niB 5)).pos) (m0 := niM p) (σ := niS fd p) (xs := p.names) (itemP p) (fun _ => true) (by kernel_rfl) (by kernel_rfl) fun x _ => body_of (q := []) (fun _ e => e) fun k => by kernel_rfl
  rw [show p.names.all (fun _ => true) = true from List.all_eq_true.mpr fun _ _ => rfl] at t
  exact ⟨m', h, t⟩
theorem o_init (C : Cx) (fd : Cell) (p : Plan) : Con C tab 40 m_Names___init__ [.obj 463 8, .obj 630 1, .none, .lst (itemsL p), .loc 7] (ba8 fd p [.dict []]) .none (bas fd p 0 []) := by
  obtain ⟨m', h, t⟩ := ni_for C fd p
  have a6 : To2 (Seg (ev C tab 34) [] niN 107022 (niB.drop 6) m' (niS fd p)) .next m' (bas fd p 0 []) := by
    rcases h with rfl | ⟨v, rfl⟩
    · exact seg_of (q := []) (fun _ e => e) fun k => by kernel_rfl
    · exact seg_of (q := []) (fun _ e => e) fun k => by kernel_rfl
  have a5 : To2 (Seg (ev C tab 35) [] niN 104042 (niB.drop 5) (niM p) (niS fd p)) .next m' (bas fd p 0 []) := seg_seq a6 (q1 := fun q => .f 104042 .next m' (niS fd p) :: .m 107022 :: q) (fun _ e => ob t e) fun k q => by kernel_rfl
  have a4 : To2 (Seg (ev C tab 36) [] niN 103023 (niB.drop 4) (niM p) (ba8 fd p [.dict ((opL .none (.lst (itemsL p)) 0).take 4)])) .next m' (bas fd p 0 []) := seg_x a5 (q1 := fun q => .m 104042 :: q) (fun _ e => e) fun X k q => by kernel_rfl
  have a3 : To2 (Seg (ev C tab 37) [] niN 102030 (niB.drop 3) (niM p) (ba8 fd p [.dict ((opL .none (.lst (itemsL p)) 0).take 3)])) .next m' (bas fd p 0 []) := seg_x a4 (q1 := fun q => .m 103023 :: q) (fun _ e => e) fun X k q => by kernel_rfl
  have a2 : To2 (Seg (ev C tab 38) [] niN 101026 (niB.drop 2) (niM p) (ba8 fd p [.dict ((opL .none (.lst (itemsL p)) 0).take 2)])) .next m' (bas fd p 0 []) := seg_x a3 (q1 := fun q => .m 102030 :: q) (fun _ e => e) fun X k q => by kernel_rfl
  have a1 : To2 (Seg (ev C tab 39) [] niN 100026 (niB.drop 1) (niM p) (ba8 fd p [.dict ((opL .none (.lst (itemsL p)) 0).take 1)])) .next m' (bas fd p 0 []) := seg_x a2 (q1 := fun q => .m 101026 :: q) (fun _ e => e) fun X k q => by kernel_rfl
  have a0 : To2 (Seg (ev C tab 40) [] niN 99036 niB (niM p) (ba8 fd p [.dict []])) .next m' (bas fd p 0 []) := seg_x a1 (q1 := fun q => .m 100026 :: q) (fun _ e => e) fun X k q => by kernel_rfl
  exact con_x3 (retK fun q d s => d = .none ∧ s = bas fd p 0 []) a0 ⟨rfl, rfl⟩ fun X q => by kernel_rfl
end
theorem m4_all : ∀ i, i < 4 → Mu4 (multS i) := by decide +kernel
theorem m5_all : ∀ i, i < 5 → Mu5 (multS i) := by decide +kernel
theorem f3_all : ∀ i, i < 3 → factS i = "" ∨ factS i = "some" ∨ factS i = "no" := by decide +kernel
theorem planOk (cs : List Int) : PlanOk (planD cs) where
  kids := Nat.le_of_lt_succ (drn_lt cs 1 (w := 3) (by decide))
  part := Nat.le_of_lt_succ (drn_lt cs 2 (w := 3) (by decide))
  mu := fun x => by
    have h := fun k => m4_all _ (drn_lt cs k (w := 4) (by decide))
    unfold muS
    split
    · exact h 3
    · split
      · exact h 4
      · split
        · exact h 5
        · split
          · exact h 6
          · exact h 7
  ow := fun h e => by
    have h' : ((drn cs 8 2 : Int) == 1 && !(kidsL (drn cs 1 3)).isEmpty) = true := h
    rw [show drn cs 1 3 = 0 from e] at h'
    exact Bool.false_ne_true ((Bool.and_false _).symm.trans h')
  kind := Nat.le_of_lt_succ (drn_lt cs 9 (w := 4) (by decide))
  left := m5_all _ (drn_lt cs 10 (w := 5) (by decide))
  right := m5_all _ (drn_lt cs 11 (w := 5) (by decide))
  mult := by
    show Mu5 (cond (decide ((drn cs 9 4 : Int) < 3)) (multS (drn cs 12 5)) "")
    cases decide ((drn cs 9 4 : Int) < 3) with
    | true => exact m5_all _ (drn_lt cs 12 (w := 5) (by decide))
    | false => exact .inl rfl
  k3 := fun h => by
    show cond (decide ((drn cs 9 4 : Int) < 3)) (multS (drn cs 12 5)) "" = ""
    rw [show drn cs 9 4 = 3 from h]
    rfl
  fact := f3_all _ (drn_lt cs 14 (w := 3) (by decide))
section
variable {C : Cx} {fd : Cell} {p : Plan} {x y f : String} {c : Nat} {τ σ sf : List Cell} {k : Nat} {mf : M} {fl : Fl} {cells cs : List Int}
theorem keep_nil (s s' : List Cell) : Keep [] s s' := fun _ m => absurd m List.not_mem_nil
def csD (cells : List Int) : List Int := (cells.take 60).map fun c => (if c < 0 then -c else c).fmod 720720
abbrev lmS (cells : List Int) : M := [(S "script", .lst (cells.map .int))]
abbrev lm1 (p : Plan) (cells : List Int) : M := (S "plan", planV p) :: (S "feed", .loc 0) :: lmS cells
abbrev lm3 (p : Plan) (cells : List Int) : M := (S "signatures", .obj 630 1) :: (S "items", .lst (itemsL p)) :: lm1 p cells
abbrev lm4 (p : Plan) (cells : List Int) : M := (S "names", .lst (strsV p.nm)) :: lm3 p cells
abbrev lm7 (p : Plan) (cells : List Int) : M := (S "due", .loc 10) :: (S "found", .lst (labV p)) :: (S "numbers", .loc 7) :: lm4 p cells
abbrev st6 (fd : Cell) (p : Plan) : List Cell := [fd, .dict (sigD p), .dict (entsL p), .list (strsV p.names), .list [], .list (fldsV p)]
abbrev laT (C : Cx) (key n i : Nat) (m : M) (s : List Cell) (fl : Fl) (mf : M) (sf : List Cell) : Prop := To2 (Seg (ev C tab n) [] laN key (laB.drop i) m s) fl mf sf
theorem la_67 (hp : PlanOk p) (t : laT C 735037 262 8 (lm7 p cells) (bas fd p (cntV p) [.list []]) fl mf sf) : laT C 733073 264 6 ((S "numbers", .loc 7) :: lm4 p cells) (ba8 fd p []) fl mf sf := by
  have a7 : laT C 734012 263 7 ((lm7 p cells).drop 1) (bas fd p (cntV p) []) fl mf sf := seg_x t (q1 := fun q => .m 735037 :: q) (fun _ e => e) fun X k q => by kernel_rfl
  exact seg_x a7 (q1 := fun q => .d 733072 40 .none (bas fd p 0 []) :: .d 733073 240 (.lst (labV p)) (bas fd p (cntV p) []) :: .m 734012 :: q) (fun _ e => ob (o_init C fd p) (ob (keep_nil (ba8 fd p [.dict []]) (bas fd p 0 [])) (ob (i_implied C fd hp) (ob (keep_nil (bas fd p 0 []) (bas fd p (cntV p) [])) e)))) fun X k q => by kernel_rfl
abbrev naC : Cmp := cmA (argA 1 (valA (stA laB 4)))
theorem la_flds (C : Cx) (p : Plan) (s : List Cell) : TurnsP (ev C tab 263) [] naC.sc.names naC.elt naC.tgt naC.ifs (strsV p.fields) [(S "plan", planV p)] s (p.fields.map fun f => sv (p.owner ++ "." ++ f)) :=
  comp_map naC (y := S "field") sv (fun f => sv (p.owner ++ "." ++ f)) (by kernel_rfl) (by kernel_rfl) (by kernel_rfl) (Nat.le_trans (flds_len p).2 (by decide)) fun f hf => by
    have ol := own_1 p
    exact turn_of (q := [.v 731054 (sv (p.owner ++ ".")), .v 731062 (sv (p.owner ++ "." ++ f))]) (fun _ e => ob (add_strs (a := p.owner) (b := ".") (s := s) (by rw [len_lit, ol]; decide)) (ob (add_strs (a := p.owner ++ ".") (b := f) (s := s) (by rw [len_lit, String.length_append, ol]; rcases fields_2 hf with rfl | rfl <;> decide)) e)) fun k => by kernel_rfl
theorem la_45 (t : laT C 733073 264 6 ((S "numbers", .loc 7) :: lm4 p cells) (ba8 fd p []) fl mf sf) : laT C 731091 266 4 (lm3 p cells) (st6 fd p) fl mf sf := by
  have nl := Nat.le_trans (nm_len p) (by decide : 20 ≤ 1000)
  have a5 : laT C 732063 265 5 (lm4 p cells) (st6 fd p ++ [.list (strsV p.names)]) fl mf sf := seg_x t (q1 := fun q => .l 732062 (p.nm.zipIdx.map fun q => .tup [sv q.1, .int q.2]) :: .w 732063 (.loc 7) (ba8 fd p []) :: .m 733073 :: q) (fun _ e => ob (la_num C (st6 fd p ++ [.list (strsV p.names)]) p.nm nl) (ob (nu_dict p (st6 fd p ++ [.list (strsV p.names)])) e)) fun X k q => by kernel_rfl
  have ad : evBop .Add (.loc 6) (.lst (p.fields.map fun f => sv (p.owner ++ "." ++ f))) (st6 fd p ++ [.list (strsV p.names)]) = some (.lst (strsV p.nm)) := by
    show grd (Nat.ble ((strsV p.names).length + (p.fields.map fun f => sv (p.owner ++ "." ++ f)).length) 100000) (V.lst (strsV p.names ++ p.fields.map fun f => sv (p.owner ++ "." ++ f))) = _
    rw [show strsV p.names ++ (p.fields.map fun f => sv (p.owner ++ "." ++ f)) = strsV p.nm from by
      unfold strsV Plan.nm
      rw [List.map_append, List.map_map]
      rfl, strs_len, List.length_map]
    exact grd_of (Nat.ble_eq_true_of_le (Nat.le_trans (Nat.add_le_add (nms_len p) (flds_len p).2) (by decide)))
  exact seg_x a5 (q1 := fun q => .w 731031 (.loc 6) (st6 fd p ++ [.list (strsV p.names)]) :: .l 731091 (p.fields.map fun f => sv (p.owner ++ "." ++ f)) :: .v 731091 (.lst (strsV p.nm)) :: .m 732063 :: q) (fun _ e => ob (bt_list (σ := st6 fd p) (d := .tup (strsV p.names)) rfl (by rw [strs_len]; exact Nat.le_trans (nms_len p) (by decide))) (ob (la_flds C p (st6 fd p ++ [.list (strsV p.names)])) (ob ad e))) fun X k q => by kernel_rfl
abbrev feC : Cmp := cmA (argA 0 (valA (stA laB 0)))
theorem la_cells (C : Cx) (cells : List Int) : TurnsP (ev C tab 267) [] feC.sc.names feC.elt feC.tgt feC.ifs ((cells.take 60).map .int) [] [] ((csD cells).map .int) := by
  unfold csD
  rw [List.map_map]
  exact comp_map feC (y := S "cell") V.int (fun c => V.int ((if c < 0 then -c else c).fmod 720720)) (by kernel_rfl) (by kernel_rfl) (by kernel_rfl) (Nat.le_trans (List.length_take_le 60 cells) (by decide)) fun c _ => turn_of (q := []) (fun _ e => e) fun k => by kernel_rfl
theorem la_03 (l : cells.length ≤ 1000) (t : laT C 731091 266 4 (lm3 (planD (csD cells)) cells) (st6 (feedC (csD cells) 15) (planD (csD cells))) fl mf sf) : laT C 727077 270 0 (lmS cells) [] fl mf sf := by
  have hp := planOk (csD cells)
  have hc : (csD cells).length ≤ 1000 := Nat.le_trans (Nat.le_of_eq (List.length_map _)) (Nat.le_trans (List.length_take_le ..) (by decide))
  have a3 : laT C 730034 267 3 ((lm3 (planD (csD cells)) cells).drop 1) [feedC (csD cells) 15] fl mf sf := seg_x t (q1 := fun q => .d 730034 60 .none (st6 (feedC (csD cells) 15) (planD (csD cells))) :: .m 731091 :: q) (fun _ e => ob (sig_init C hp.kids hp.part hp.ow (feedC (csD cells) 15)) (ob (keep_nil [feedC (csD cells) 15, .dict []] (st6 (feedC (csD cells) 15) (planD (csD cells)))) e)) fun X k q => by kernel_rfl
  have a2 : laT C 729028 268 2 (lm1 (planD (csD cells)) cells) [feedC (csD cells) 15] fl mf sf := seg_x a3 (q1 := fun q => .c 729028 60 (.lst (itemsL (planD (csD cells)))) :: .m 730034 :: q) (fun _ e => ob (items_ok C (feedC (csD cells) 15) hp.part hp.kind) e) fun X k q => by kernel_rfl
  have a1 : laT C 728027 269 1 ((S "feed", .loc 0) :: lmS cells) [feedC (csD cells) 0] fl mf sf := seg_x a2 (q1 := fun q => .d 728027 60 (planV (planD (csD cells))) [feedC (csD cells) 15] :: .m 729028 :: q) (fun _ e => ob (model_ok (C := C) hc) (ob (keep_nil [feedC (csD cells) 0] [feedC (csD cells) 15]) e)) fun X k q => by kernel_rfl
  have sl : slcR [] none (some 60) (.lst (cells.map .int)) = some (.lst ((cells.take 60).map .int)) := (lt_of (σ := []) (d := .lst (cells.map .int)) (g := fun xs => V.lst (slc xs none (some 60))) rfl (by rw [List.length_map]; exact le5 l)).trans (congrArg (fun l => some (V.lst l)) ((slc_nat _ 60).trans List.map_take.symm))
  exact seg_x a1 (q1 := fun q => .v 727064 (.lst ((cells.take 60).map .int)) :: .l 727065 ((csD cells).map .int) :: .m 728027 :: q) (fun _ e => ob sl (ob (la_cells C cells) e)) fun X k q => by kernel_rfl
end
section
variable {C : Cx} {fd : Cell} {p : Plan} {x y f : String} {c : Nat} {τ σ sf : List Cell} {k : Nat} {mf m m0 : M} {fl : Fl} {cells cs : List Int} {L : List V}
abbrev duF : Stmt := stA laB 8
abbrev duB : List Stmt := thenA duF
def toldB (p : Plan) (x : String) : Bool := ["C", "D", "E"].contains x || (!(muS p x == "") || (x == p.owner && !(p.fact == "")))
abbrev duS (fd : Cell) (p : Plan) (c : Nat) (L : List V) : List Cell := bas fd p c [.list L]
abbrev duT (C : Cx) (m : M) (p : Plan) (cells : List Int) (x : String) (s s' : List Cell) : Prop := To2 (fun q => (ev C tab 261).x [] laN duB q m s) .next ((S "is_told", .bool (toldB p x)) :: (S "name", sv x) :: lm7 p cells) s'
theorem du_told (hx : x ∈ p.names) {s s' : List Cell} (t : To2 (Seg (ev C tab 260) [] laN 737037 (duB.drop 1) ((S "is_told", .bool (toldB p x)) :: (S "name", sv x) :: lm7 p cells) s) .next ((S "is_told", .bool (toldB p x)) :: (S "name", sv x) :: lm7 p cells) s') (hm : NestT (S "name") (S "is_told") (lm7 p cells) (sv x) m) : duT C m p cells x s s' := by
  unfold duT
  unfold toldB at t ⊢
  have o1 := fun E b (h : ["C", "D", "E"].contains x = b) (e : E) => ob (in_strs s h) e
  cases h1 : ["C", "D", "E"].contains x with
  | true =>
    rw [h1] at t
    cases hm with
    | a => exact body_x t (q1 := fun q => .b 736041 true :: .m 737037 :: q) (fun E e => o1 E _ h1 e) fun X k q => by kernel_rfl
    | b w => exact body_x t (q1 := fun q => .b 736041 true :: .m 737037 :: q) (fun E e => o1 E _ h1 e) fun X k q => by kernel_rfl
  | false =>
    rw [h1] at t
    have o2 := fun E b (h : (muS p x == "") = b) (e : E) => o1 _ _ h1 (ob (ixd_of (σ := s) (mu_some hx)) (ob (ne_strs s h) e))
    cases h2 : muS p x == "" with
    | false =>
      rw [h2] at t
      cases hm with
      | a => exact body_x t (q1 := fun q => .b 736041 false :: .v 736064 (sv (muS p x)) :: .b 736070 true :: .m 737037 :: q) (fun E e => o2 E _ h2 e) fun X k q => by kernel_rfl
      | b w => exact body_x t (q1 := fun q => .b 736041 false :: .v 736064 (sv (muS p x)) :: .b 736070 true :: .m 737037 :: q) (fun E e => o2 E _ h2 e) fun X k q => by kernel_rfl
    | true =>
      rw [h2] at t
      have o3 := fun E b (h : (x == p.owner) = b) (e : E) => o2 _ _ h2 (ob (eq_strs s h) e)
      cases h3 : x == p.owner with
      | false =>
        rw [h3] at t
        cases hm with
        | a => exact body_x t (q1 := fun q => .b 736041 false :: .v 736064 (sv (muS p x)) :: .b 736070 false :: .b 736096 false :: .m 737037 :: q) (fun E e => o3 E _ h3 e) fun X k q => by kernel_rfl
        | b w => exact body_x t (q1 := fun q => .b 736041 false :: .v 736064 (sv (muS p x)) :: .b 736070 false :: .b 736096 false :: .m 737037 :: q) (fun E e => o3 E _ h3 e) fun X k q => by kernel_rfl
      | true =>
        rw [h3] at t
        cases hm with
        | a => exact body_x t (q1 := fun q => .b 736041 false :: .v 736064 (sv (muS p x)) :: .b 736070 false :: .b 736096 true :: .b 736119 (!(p.fact == "")) :: .m 737037 :: q) (fun E e => o3 _ _ h3 (ob (ne_strs s (x := p.fact) (y := "") rfl) e)) fun X k q => by kernel_rfl
        | b w => exact body_x t (q1 := fun q => .b 736041 false :: .v 736064 (sv (muS p x)) :: .b 736070 false :: .b 736096 true :: .b 736119 (!(p.fact == "")) :: .m 737037 :: q) (fun E e => o3 _ _ h3 (ob (ne_strs s (x := p.fact) (y := "") rfl) e)) fun X k q => by kernel_rfl
theorem du_if (hx : x ∈ p.names) (l : L.length ≤ 100) {b : Bool} : To2 (Seg (ev C tab 260) [] laN 737037 (duB.drop 1) ((S "is_told", .bool b) :: (S "name", sv x) :: lm7 p cells) (duS fd p c L)) .next ((S "is_told", .bool b) :: (S "name", sv x) :: lm7 p cells) (duS fd p c (L ++ cond (b || (x == "A" && decide (cond p.ab (0 : Int) 1 < (kidsL p.kids).length))) [sv ("sig " ++ x)] [])) := by
  have s1 := add_strs (a := "sig ") (b := x) (s := duS fd p c L) (by rcases name_cases hx with rfl | rfl | rfl | rfl | rfl <;> rw [len_lit, len_lit] <;> decide)
  have ap := app_10 fd p c [] (sv ("sig " ++ x)) l
  have nil := List.append_nil L
  cases b with
  | true => exact seg_of (q := [.t 737018 true, .v 738036 (sv ("sig " ++ x)), .w 738037 .none (duS fd p c (L ++ [sv ("sig " ++ x)]))]) (fun _ e => ob (rfl : some true = some true) (ob s1 (ob ap e))) fun k => by kernel_rfl
  | false => cases h5 : x == "A" with
    | false =>
      rw [show L ++ cond (false || (false && _)) [sv ("sig " ++ x)] [] = L from nil]
      exact seg_of (q := [.t 737018 false, .b 737034 false]) (fun _ e => ob (rfl : some false = some false) (ob (eq_strs (duS fd p c L) h5) e)) fun k => by kernel_rfl
    | true =>
      have w := len_of (σ := duS fd p c L) (d := .tup (strsV (kidsL p.kids))) rfl (by rw [strs_len]; exact Nat.le_trans (kids_len _) (by decide))
      rw [strs_len] at w
      have o := fun E b (h : p.ab = b) (e : E) => ob (rfl : some false = some false) (ob (eq_strs (duS fd p c L) h5) (ob w (ob (congrArg some h) e)))
      cases ha : p.ab with
      | true => cases h6 : decide ((0 : Int) < (kidsL p.kids).length) with
        | true =>
          rw [show decide (cond true (0 : Int) 1 < (kidsL p.kids).length) = true from h6]
          exact seg_of (q := [.t 737018 false, .b 737034 true, .w 737056 (.int (kidsL p.kids).length) (duS fd p c L), .t 737081 true, .b 737089 true, .v 738036 (sv ("sig " ++ x)), .w 738037 .none (duS fd p c (L ++ [sv ("sig " ++ x)]))]) (fun E e => o _ _ ha (ob (congrArg some h6) (ob s1 (ob ap e)))) fun k => by kernel_rfl
        | false =>
          rw [show decide (cond true (0 : Int) 1 < (kidsL p.kids).length) = false from h6, show L ++ cond (false || (true && false)) [sv ("sig " ++ x)] [] = L from nil]
          exact seg_of (q := [.t 737018 false, .b 737034 true, .w 737056 (.int (kidsL p.kids).length) (duS fd p c L), .t 737081 true, .b 737089 false]) (fun E e => o _ _ ha (ob (congrArg some h6) e)) fun k => by kernel_rfl
      | false => cases h6 : decide ((1 : Int) < (kidsL p.kids).length) with
        | true =>
          rw [show decide (cond false (0 : Int) 1 < (kidsL p.kids).length) = true from h6]
          exact seg_of (q := [.t 737018 false, .b 737034 true, .w 737056 (.int (kidsL p.kids).length) (duS fd p c L), .t 737081 false, .b 737089 true, .v 738036 (sv ("sig " ++ x)), .w 738037 .none (duS fd p c (L ++ [sv ("sig " ++ x)]))]) (fun E e => o _ _ ha (ob (congrArg some h6) (ob s1 (ob ap e)))) fun k => by kernel_rfl
        | false =>
          rw [show decide (cond false (0 : Int) 1 < (kidsL p.kids).length) = false from h6, show L ++ cond (false || (true && false)) [sv ("sig " ++ x)] [] = L from nil]
          exact seg_of (q := [.t 737018 false, .b 737034 true, .w 737056 (.int (kidsL p.kids).length) (duS fd p c L), .t 737081 false, .b 737089 false]) (fun E e => o _ _ ha (ob (congrArg some h6) e)) fun k => by kernel_rfl
end
section
variable {C : Cx} {fd : Cell} {p : Plan} {x y f : String} {c : Nat} {τ σ sf s : List Cell} {k : Nat} {mf m m0 : M} {fl : Fl} {cells cs : List Int} {L : List V} {w v : V}
abbrev mD (p : Plan) (cells : List Int) (w v : V) : M := (S "is_told", w) :: (S "name", v) :: lm7 p cells
abbrev dueV (p : Plan) (ys : List String) : List V := strsV ((ys.filter (dueB p)).map ("sig " ++ ·))
inductive Du1 (fd : Cell) (p : Plan) (c : Nat) (cells : List Int) (xs : List String) (m : M) (s : List Cell) : Prop
  | mk (ys : List String) (es : s = duS fd p c (dueV p ys)) (ln : p.names = ys ++ xs) (hm : (ys = [] ∧ m = lm7 p cells) ∨ ∃ w v, m = mD p cells w v)
theorem nms_20 (p : Plan) : p.names.length ≤ 20 := Nat.le_trans (Nat.le_trans (Nat.le_add_right ..) (Nat.le_of_eq List.length_append.symm)) (nm_len p)
theorem due_len (p : Plan) (ys : List String) : (dueV p ys).length ≤ ys.length := Nat.le_trans (Nat.le_of_eq (strs_len.trans (List.length_map _))) (List.length_filter_le ..)
theorem due_snoc (p : Plan) (ys : List String) (x : String) : dueV p (ys ++ [x]) = dueV p ys ++ cond (dueB p x) [sv ("sig " ++ x)] [] := by
  unfold dueV strsV
  rw [List.filter_append, List.map_append, List.map_append, List.filter_cons]
  cases dueB p x <;> rfl
theorem du_for : ∃ w v, ForP (ev C tab 261) [] laN (tgA duF) duB (strsV p.names) (lm7 p cells) (duS fd p c []) .next (mD p cells w v) (duS fd p c (strsV (dueL p))) := by
  obtain ⟨m', s', i, t⟩ := for_gen (r := ev C tab 261) (lk := []) (nk := laN) (body := duB) (tgt := tgA duF) (g := sv) (I := Du1 fd p c cells) (fun x xs m s i => by
    obtain ⟨ys, rfl, ln, hm⟩ := i
    have hx : x ∈ p.names := ln ▸ List.mem_append_right _ (.head _)
    have l : (dueV p ys).length ≤ 100 := Nat.le_trans (due_len p ys) (Nat.le_trans (Nat.le_trans (Nat.le_trans (Nat.le_add_right ..) (Nat.le_of_eq (List.length_append.symm.trans (congrArg _ ln.symm)))) (nms_20 p)) (by decide))
    have hn : NestM (S "name") (S "is_told") (lm7 p cells) m := by
      rcases hm with ⟨_, rfl⟩ | ⟨w, v, rfl⟩
      · exact .a
      · exact .c w v
    exact ⟨_, _, _, tgt_name (p := (tgA duF).pos) (by kernel_rfl), du_told hx (du_if hx l) (hn.turn (by kernel_rfl) (by kernel_rfl) (sv x)), ⟨ys ++ [x], congrArg (duS fd p c) (due_snoc p ys x).symm, ln.trans (List.append_assoc ys [x] xs).symm, .inr ⟨_, _, rfl⟩⟩⟩) p.names (m := lm7 p cells) (σ := duS fd p c []) ⟨[], rfl, rfl, .inl ⟨rfl, rfl⟩⟩
  obtain ⟨ys, rfl, ln, hm⟩ := i
  rw [List.append_nil] at ln
  subst ln
  obtain ⟨w, v, rfl⟩ := hm.resolve_left fun h => List.cons_ne_nil _ _ h.1
  exact ⟨w, v, t []⟩
abbrev labP (q : String × V) : V := .tup [sv q.1, q.2]
def labL (p : Plan) : List (String × V) := (p.names.filter (dueB p)).map (fun x => ("sig " ++ x, joinF (sigF p x (muS p x)))) ++ cond p.two [("field " ++ p.owner ++ "." ++ "f", joinF (fieldF p "f" 0)), ("field " ++ p.owner ++ "." ++ "g", joinF (fieldF p "g" (0 + cntP p)))] [("field " ++ p.owner ++ "." ++ "f", joinF (fieldF p "f" 0))]
theorem labV_eq (p : Plan) : labV p = (labL p).map labP := by
  unfold labV labL
  rw [labs_due p p.names fun _ h => h, List.map_append, List.map_map]
  cases p.two <;> rfl
theorem labL_1 (p : Plan) : ((labL p).map fun q => sv q.1) = strsV (dueL p ++ fldL p) := by
  unfold labL dueL fldL strsV Plan.fields
  rw [List.map_append, List.map_append, List.map_map, List.map_map]
  cases p.two <;> rfl
theorem labL_len (p : Plan) : (labL p).length ≤ 1000 := by
  unfold labL
  rw [List.length_append, List.length_map]
  exact Nat.le_trans (Nat.add_le_add (Nat.le_trans (List.length_filter_le ..) (nms_20 p)) (show _ ≤ 2 by cases p.two <;> exact Nat.le_of_ble_eq_true rfl)) (by decide)
abbrev cuC : Cmp := cmA (argA 0 (valA (stA laB 9)))
abbrev cuD : Cmp := cmA (argA 1 (argA 1 (valA (stA laB 9))))
theorem la_labs (C : Cx) (p : Plan) (s : List Cell) : TurnsP (ev C tab 258) [] cuC.sc.names cuC.elt cuC.tgt cuC.ifs (labV p) [] s (strsV (dueL p ++ fldL p)) :=
  labV_eq p ▸ labL_1 p ▸ comp_gen cuC labP (fun q => sv q.1) (fun q => [(S "formula", q.2), (S "label", sv q.1)]) (fun m => m = [] ∨ ∃ a b, m = [(S "formula", b), (S "label", a)]) (fun q m h => by
    rcases h with rfl | ⟨a, b, rfl⟩ <;> kernel_rfl) (fun q => .inr ⟨_, _, rfl⟩) (.inl rfl) (le5 (labL_len p)) fun q _ => turn_of (q := []) (fun _ e => e) fun k => by kernel_rfl
theorem la_fl (C : Cx) (p : Plan) (s : List Cell) : TurnsP (ev C tab 257) [] cuD.sc.names cuD.elt cuD.tgt cuD.ifs (strsV p.fields) [(S "plan", planV p)] s (strsV (fldL p)) := by
  unfold fldL
  rw [show strsV (p.fields.map fun f => "field " ++ p.owner ++ "." ++ f) = p.fields.map fun f => sv ("field " ++ p.owner ++ "." ++ f) from List.map_map]
  exact comp_map cuD (y := S "field") sv (fun f => sv ("field " ++ p.owner ++ "." ++ f)) (by kernel_rfl) (by kernel_rfl) (by kernel_rfl) (Nat.le_trans (flds_len p).2 (by decide)) fun f hf => by
    have ol := own_1 p
    exact turn_of (q := [.v 739077 (sv p.owner), .v 739077 (sv ("field " ++ p.owner)), .v 739083 (sv ("field " ++ p.owner ++ ".")), .v 739091 (sv ("field " ++ p.owner ++ "." ++ f))]) (fun _ e => ob (rfl : some (sv p.owner) = some (sv p.owner)) (ob (add_strs (a := "field ") (b := p.owner) (s := s) (by rw [len_lit, len_lit, ol]; decide)) (ob (add_strs (a := "field " ++ p.owner) (b := ".") (s := s) (by rw [len_lit, String.length_append, ol]; decide)) (ob (add_strs (a := "field " ++ p.owner ++ ".") (b := f) (s := s) (by rw [len_lit, String.length_append, String.length_append, ol]; rcases fields_2 hf with rfl | rfl <;> decide)) e)))) fun k => by kernel_rfl
theorem eqv_strs (l : List String) : PyData.eqvAll (V.pys (strsV l)) (V.pys (strsV l)) = true := by
  induction l with
  | nil => rfl
  | cons x l ih =>
    show ((S x == S x) && PyData.eqvAll (V.pys (strsV l)) (V.pys (strsV l))) = true
    rw [ih, beq_self_eq_true]
    rfl
theorem ne_same (s : List Cell) (l : List String) : evCop .NotEq (.lst (strsV l)) (.lst (strsV l)) s = some false := by
  show (grd (V.pls 39 (strsV l) && V.pls 39 (strsV l)) (PyData.eqvAll (V.pys (strsV l)) (V.pys (strsV l)))).map (!·) = _
  rw [pls_strs, eqv_strs]
  rfl
theorem la_89 (f : ForP (ev C tab 261) [] laN (tgA duF) duB (strsV p.names) (lm7 p cells) (duS fd p c []) .next (mD p cells w v) (duS fd p c (strsV (dueL p)))) (t : laT C 741028 260 10 (mD p cells w v) (duS fd p c (strsV (dueL p))) fl mf sf) : laT C 735037 262 8 (lm7 p cells) (duS fd p c []) fl mf sf := by
  have ad : evBop .Add (.loc 10) (.lst (strsV (fldL p))) (duS fd p c (strsV (dueL p))) = some (.lst (strsV (dueL p ++ fldL p))) := by
    show grd (Nat.ble ((strsV (dueL p)).length + (strsV (fldL p)).length) 100000) (V.lst (strsV (dueL p) ++ strsV (fldL p))) = _
    rw [strs_len, strs_len, show strsV (dueL p) ++ strsV (fldL p) = strsV (dueL p ++ fldL p) from List.map_append.symm]
    unfold dueL fldL
    rw [List.length_map, List.length_map]
    exact grd_of (Nat.ble_eq_true_of_le (Nat.le_trans (Nat.add_le_add (Nat.le_trans (List.length_filter_le ..) (nms_20 p)) (flds_len p).2) (by decide)))
  have a9 : laT C 739020 261 9 (mD p cells w v) (duS fd p c (strsV (dueL p))) fl mf sf := seg_seq t (q1 := fun q => .l 739042 (strsV (dueL p ++ fldL p)) :: .l 739120 (strsV (fldL p)) :: .v 739120 (.lst (strsV (dueL p ++ fldL p))) :: .b 739120 false :: .m 741028 :: q) (fun _ e => ob (la_labs C p (duS fd p c (strsV (dueL p)))) (ob (la_fl C p (duS fd p c (strsV (dueL p)))) (ob ad (ob (ne_same (duS fd p c (strsV (dueL p))) (dueL p ++ fldL p)) e)))) fun k q => by kernel_rfl
  exact seg_seq a9 (q1 := fun q => .f 735037 .next (mD p cells w v) (duS fd p c (strsV (dueL p))) :: .m 739020 :: q) (fun _ e => ob f e) fun k q => by kernel_rfl
end
def elsA : Stmt → List Stmt
  | .If _ _ o _ => o
  | _ => []
def blkK (X : List Nat → Nk → List Stmt → Qu → M → List Cell → KX → Prop) (lk : List Nat) (nk : Nk) (rest : List Stmt) (k : KX) : KX := fun q f m σ => match f with
  | .next => X lk nk rest q m σ k
  | .brk => k q .brk m σ
  | .cont => k q .cont m σ
  | .ret d => k q (.ret d) m σ
theorem seg_if {C : Cx} {n i j : Nat} {lk : List Nat} {nk : Nk} {body B rest : List Stmt} {m m' mf : M} {σ σ' sf : List Cell} {f : Fl} {q1 q2 : Qu → Qu} {P P2 : Prop → Prop} (t : To2 (Seg (ev C tab n) lk nk j rest m' σ') f mf sf) (p : ∀ E, E → P E) (p2 : ∀ E, E → P2 E)
    (e : ∀ X k q, evX tab ⟨(ev C tab n).e, (ev C tab n).l, (ev C tab n).b, X⟩ lk nk body (.m i :: q1 q) m σ k = P (X lk nk B q m σ (blkK X lk nk rest k)))
    (e2 : ∀ K q, (ev C tab n).x lk nk B (q2 q) m σ K = P2 (K (.m j :: q) .next m' σ')) : To2 (Seg (ev C tab (n + 1)) lk nk i body m σ) f mf sf := fun k hk => (t k hk).elim fun q h => ⟨q1 (q2 q), (e (ev C tab n).x k (q2 q)).mpr (p _ ((e2 (blkK (ev C tab n).x lk nk rest k) q).mpr (p2 _ h)))⟩
section
variable {C : Cx} {fd : Cell} {p : Plan} {x y f o : String} {c k K : Nat} {τ σ sf s : List Cell} {mf m m0 m1 : M} {cells cs : List Int} {L : List V} {w v u hV l fo a n : V} {b : Bool} {γ : String → Rel} {α : String → List Int} {β : String → Rel}
abbrev lpF : Stmt := stA laB 10
abbrev lpB : List Stmt := thenA lpF
abbrev liF : Stmt := stA lpB 1
abbrev liB : List Stmt := thenA liF
abbrev lpS (fd : Cell) (p : Plan) (c : Nat) (τ : List Cell) : List Cell := bas fd p c (.list (strsV (dueL p)) :: τ)
abbrev lpG (p : Plan) (cells : List Int) (hV l w u n fo a : V) : M := (S "holds", u) :: (S "name", n) :: (S "formula", fo) :: (S "label", a) :: (S "here", hV) :: (S "lap", l) :: (S "is_told", w) :: lm7 p cells
inductive LaX (p : Plan) (cells : List Int) (hV l w fo a n : V) : M → M → Prop
  | a (v : V) : LaX p cells hV l w fo a n ((S "formula", fo) :: (S "label", a) :: (S "here", hV) :: (S "lap", l) :: (S "is_told", w) :: (S "name", v) :: lm7 p cells) ((S "name", n) :: (S "formula", fo) :: (S "label", a) :: (S "here", hV) :: (S "lap", l) :: (S "is_told", w) :: lm7 p cells)
  | b (u v : V) : LaX p cells hV l w fo a n ((S "formula", fo) :: (S "label", a) :: (S "here", hV) :: (S "lap", l) :: (S "holds", u) :: (S "name", v) :: (S "is_told", w) :: lm7 p cells) ((S "name", n) :: (S "formula", fo) :: (S "label", a) :: (S "here", hV) :: (S "lap", l) :: (S "holds", u) :: (S "is_told", w) :: lm7 p cells)
  | c (u v : V) : LaX p cells hV l w fo a n ((S "formula", fo) :: (S "label", a) :: (S "holds", u) :: (S "name", v) :: (S "here", hV) :: (S "lap", l) :: (S "is_told", w) :: lm7 p cells) ((S "name", n) :: (S "formula", fo) :: (S "label", a) :: (S "holds", u) :: (S "here", hV) :: (S "lap", l) :: (S "is_told", w) :: lm7 p cells)
theorem in_locS (s : List Cell) {n : Nat} {l : List String} {z : String} {b : Bool} (e : s[n]? = some (.list (strsV l))) (h : l.contains z = b) : evCop .In (sv z) (.loc n) s = some b := by
  have g : getDc s (.loc n) = none := by
    show (s[n]?).bind _ = none
    rw [e]
    rfl
  show inD (S z) (.loc n) s = _
  unfold inD
  rw [g]
  show (getL s (.loc n)).bind _ = _
  rw [gl_of e]
  show grd (V.pls 40 (strsV l) && true) _ = _
  rw [pls_strs]
  exact congrArg some ((strs_any z l).trans h)
theorem ne_bool (s : List Cell) (b : Bool) : evCop .NotEq (.bool b) (.bool b) s = some false := by cases b <;> rfl
theorem li_2 {K : Nat} (hK : K ≤ 252) (t : TrIs C K fo (hG p γ) (.loc (lpS fd p c τ).length) (lpS fd p c τ ++ [.dict []]) b) : To2 (Seg (ev C tab 255) [] laN 749028 (liB.drop 2) (lpG p cells (hG p γ) l w (.bool b) n fo a) (lpS fd p c τ)) .next (lpG p cells (hG p γ) l w (.bool b) n fo a) (lpS fd p c (τ ++ [.dict []])) := by
  exact seg_of (q := [.r 749043 K (.bool b), .b 749052 false]) (fun _ e => ob (ob hK t) (ob (ne_bool (lpS fd p c (τ ++ [.dict []])) b) e)) fun k => by kernel_rfl
theorem li_1s (hd : (dueL p).contains ("sig " ++ x) = true) (c1 : Con C tab 60 f__law_sig_holds [planV p, sv x, hG p γ, .lst (strsV p.nm)] (lpS fd p c τ) (.bool b) (lpS fd p c τ)) (hm : LaX p cells (hG p γ) l w fo (sv ("sig " ++ x)) (sv x) m m1) (t : To2 (Seg (ev C tab 255) [] laN 749028 (liB.drop 2) (lpG p cells (hG p γ) l w (.bool b) (sv x) fo (sv ("sig " ++ x))) (lpS fd p c τ)) .next mf sf) : To2 (Seg (ev C tab 256) [] laN 745079 (liB.drop 1) m1 (lpS fd p c τ)) .next mf sf := by
  cases hm with
  | a v => exact seg_if t (B := thenA (stA liB 1)) (q1 := fun q => .b 745027 true :: q) (q2 := fun q => .c 746063 60 (.bool b) :: .m 749028 :: q) (fun _ e => ob (in_locS (lpS fd p c τ) (n := 10) rfl hd) e) (fun _ e => ob c1 e) (fun X k q => by kernel_rfl) fun k q => by kernel_rfl
  | b u v => exact seg_if t (B := thenA (stA liB 1)) (q1 := fun q => .b 745027 true :: q) (q2 := fun q => .c 746063 60 (.bool b) :: .m 749028 :: q) (fun _ e => ob (in_locS (lpS fd p c τ) (n := 10) rfl hd) e) (fun _ e => ob c1 e) (fun X k q => by kernel_rfl) fun k q => by kernel_rfl
  | c u v => exact seg_if t (B := thenA (stA liB 1)) (q1 := fun q => .b 745027 true :: q) (q2 := fun q => .c 746063 60 (.bool b) :: .m 749028 :: q) (fun _ e => ob (in_locS (lpS fd p c τ) (n := 10) rfl hd) e) (fun _ e => ob c1 e) (fun X k q => by kernel_rfl) fun k q => by kernel_rfl
theorem li_1f {a : String} (hd : (dueL p).contains a = false) (c1 : Con C tab 90 f__law_field_holds [planV p, sv f, hG p γ, .lst (strsV p.nm)] (lpS fd p c τ) (.bool b) (lpS fd p c τ)) (sp : evMeth [] .split (sv y) [sv "."] (lpS fd p c τ) = some (.lst [sv o, sv f], lpS fd p c τ)) (hm : LaX p cells (hG p γ) l w fo (sv a) (sv y) m m1) (t : To2 (Seg (ev C tab 255) [] laN 749028 (liB.drop 2) (lpG p cells (hG p γ) l w (.bool b) (sv y) fo (sv a)) (lpS fd p c τ)) .next mf sf) : To2 (Seg (ev C tab 256) [] laN 745079 (liB.drop 1) m1 (lpS fd p c τ)) .next mf sf := by
  cases hm with
  | a v => exact seg_if t (B := elsA (stA liB 1)) (q1 := fun q => .b 745027 false :: q) (q2 := fun q => .w 748062 (.lst [sv o, sv f]) (lpS fd p c τ) :: .c 748079 90 (.bool b) :: .m 749028 :: q) (fun _ e => ob (in_locS (lpS fd p c τ) (n := 10) rfl hd) e) (fun _ e => ob sp (ob c1 e)) (fun X k q => by kernel_rfl) fun k q => by kernel_rfl
  | b u v => exact seg_if t (B := elsA (stA liB 1)) (q1 := fun q => .b 745027 false :: q) (q2 := fun q => .w 748062 (.lst [sv o, sv f]) (lpS fd p c τ) :: .c 748079 90 (.bool b) :: .m 749028 :: q) (fun _ e => ob (in_locS (lpS fd p c τ) (n := 10) rfl hd) e) (fun _ e => ob sp (ob c1 e)) (fun X k q => by kernel_rfl) fun k q => by kernel_rfl
  | c u v => exact seg_if t (B := elsA (stA liB 1)) (q1 := fun q => .b 745027 false :: q) (q2 := fun q => .w 748062 (.lst [sv o, sv f]) (lpS fd p c τ) :: .c 748079 90 (.bool b) :: .m 749028 :: q) (fun _ e => ob (in_locS (lpS fd p c τ) (n := 10) rfl hd) e) (fun _ e => ob sp (ob c1 e)) (fun X k q => by kernel_rfl) fun k q => by kernel_rfl
theorem li_0 {a z : String} (sp : evMeth [] .split (sv a) [sv " "] (lpS fd p c τ) = some (.lst [sv z, n], lpS fd p c τ)) (hm : LaX p cells hV l w fo (sv a) n m m1) (t : To2 (Seg (ev C tab 256) [] laN 745079 (liB.drop 1) m1 (lpS fd p c τ)) .next mf sf) : To2 (fun q => (ev C tab 257).x [] laN liB q m (lpS fd p c τ)) .next mf sf := by
  cases hm with
  | a v => exact body_x t (q1 := fun q => .w 744035 (.lst [sv z, n]) (lpS fd p c τ) :: .m 745079 :: q) (fun _ e => ob sp e) fun X k q => by kernel_rfl
  | b u v => exact body_x t (q1 := fun q => .w 744035 (.lst [sv z, n]) (lpS fd p c τ) :: .m 745079 :: q) (fun _ e => ob sp e) fun X k q => by kernel_rfl
  | c u v => exact body_x t (q1 := fun q => .w 744035 (.lst [sv z, n]) (lpS fd p c τ) :: .m 745079 :: q) (fun _ e => ob sp e) fun X k q => by kernel_rfl
theorem split_sig (hx : x ∈ p.names) (s : List Cell) : evMeth [] .split (sv ("sig " ++ x)) [sv " "] s = some (.lst [sv "sig", sv x], s) := by
  rcases name_cases hx with rfl | rfl | rfl | rfl | rfl <;> kernel_rfl
theorem own_2 (p : Plan) : p.owner = "A" ∨ p.owner = "C" := by
  unfold Plan.owner
  cases p.ow with
  | true => exact .inr rfl
  | false => exact .inl rfl
theorem split_fld (hf : f ∈ p.fields) (s : List Cell) : evMeth [] .split (sv ("field " ++ p.owner ++ "." ++ f)) [sv " "] s = some (.lst [sv "field", sv (p.owner ++ "." ++ f)], s) ∧ evMeth [] .split (sv (p.owner ++ "." ++ f)) [sv "."] s = some (.lst [sv p.owner, sv f], s) := by
  rcases own_2 p with h | h <;> rw [h] <;> rcases fields_2 hf with rfl | rfl <;> exact ⟨by kernel_rfl, by kernel_rfl⟩
theorem sig_yes (hx : x ∈ p.names.filter (dueB p)) : (dueL p).contains ("sig " ++ x) = true := List.contains_iff_mem.mpr (List.mem_map_of_mem hx)
theorem fld_no : (dueL p).contains ("field " ++ p.owner ++ "." ++ f) = false := nc_iff.mpr fun h => by
  obtain ⟨x, _, e⟩ := List.mem_map.mp h
  have h2 := congrArg (fun s : String => s.toList.head?) e
  rw [String.append_assoc, String.append_assoc] at h2
  simp [String.toList_append] at h2
end
section
variable {C : Cx} {fd : Cell} {p : Plan} {x y f : String} {c k : Nat} {τ σ sf s : List Cell} {mf m : M} {cells cs : List Int} {w v hV l : V} {γ : String → Rel} {α : String → List Int} {β : String → Rel}
inductive LaB (p : Plan) (cells : List Int) (hV l w : V) : M → Prop
  | a (v : V) : LaB p cells hV l w ((S "here", hV) :: (S "lap", l) :: (S "is_told", w) :: (S "name", v) :: lm7 p cells)
  | b (u v fo a : V) : LaB p cells hV l w ((S "here", hV) :: (S "lap", l) :: (S "holds", u) :: (S "name", v) :: (S "formula", fo) :: (S "label", a) :: (S "is_told", w) :: lm7 p cells)
  | c (u n fo a : V) : LaB p cells hV l w (lpG p cells hV l w u n fo a)
theorem LaB.turn (h : LaB p cells hV l w m) (q : String × V) : ∃ m1, tgtN laN (tgA liF) (labP q) m = some m1 ∧ ∀ n, ∃ m2, LaX p cells hV l w q.2 (sv q.1) n m1 m2 := by
  cases h with
  | a v => exact ⟨_, (by kernel_rfl : tgtN laN (tgA liF) (labP q) _ = some ((S "formula", q.2) :: (S "label", sv q.1) :: (S "here", hV) :: (S "lap", l) :: (S "is_told", w) :: (S "name", v) :: lm7 p cells)), fun n => ⟨_, .a v⟩⟩
  | b u v fo a => exact ⟨_, (by kernel_rfl : tgtN laN (tgA liF) (labP q) _ = some ((S "formula", q.2) :: (S "label", sv q.1) :: (S "here", hV) :: (S "lap", l) :: (S "holds", u) :: (S "name", v) :: (S "is_told", w) :: lm7 p cells)), fun n => ⟨_, .b u v⟩⟩
  | c u n fo a => exact ⟨_, (by kernel_rfl : tgtN laN (tgA liF) (labP q) _ = some ((S "formula", q.2) :: (S "label", sv q.1) :: (S "holds", u) :: (S "name", n) :: (S "here", hV) :: (S "lap", l) :: (S "is_told", w) :: lm7 p cells)), fun z => ⟨_, .c u n⟩⟩
theorem lab_cases {q : String × V} (h : q ∈ labL p) : (∃ x ∈ p.names.filter (dueB p), q = ("sig " ++ x, joinF (sigF p x (muS p x)))) ∨ ∃ f ∈ p.fields, ∃ c, q = ("field " ++ p.owner ++ "." ++ f, joinF (fieldF p f c)) := by
  rcases List.mem_append.mp h with h | h
  · obtain ⟨x, hx, e⟩ := List.mem_map.mp h
    exact .inl ⟨x, hx, e.symm⟩
  · cases ht : p.two with
    | true =>
      rw [ht] at h
      rcases List.mem_cons.mp h with e | h
      · exact .inr ⟨"f", f_mem p, 0, e⟩
      · exact .inr ⟨"g", by unfold Plan.fields; rw [ht]; exact .tail _ (.head _), 0 + cntP p, List.mem_singleton.mp h⟩
    | false =>
      rw [ht] at h
      exact .inr ⟨"f", f_mem p, 0, List.mem_singleton.mp h⟩
theorem li_turn (hp : PlanOk p) (G : Good p γ α β) {q : String × V} (hq : q ∈ labL p) (hm : ∀ n, ∃ m2, LaX p cells (hG p γ) l w q.2 (sv q.1) n m m2) : ∃ u n, To2 (fun qq => (ev C tab 257).x [] laN liB qq m (lpS fd p c τ)) .next (lpG p cells (hG p γ) l w u n q.2 (sv q.1)) (lpS fd p c (τ ++ [.dict []])) := by
  have ge := gd_of (get_new (σ := lpS fd p c τ) (c := .dict []))
  rcases lab_cases hq with ⟨x, hx, rfl⟩ | ⟨f, hf, z, rfl⟩
  · have h2 := List.mem_filter.mp hx
    obtain ⟨b, c1, c2⟩ := lap_sig C hp G h2.1 fun e => by
      have := due_sig h2.1
      rw [e, h2.2] at this
      exact nomatch this
    obtain ⟨m2, hm⟩ := hm (sv x)
    exact ⟨_, _, li_0 (split_sig h2.1 (lpS fd p c τ)) hm (li_1s (sig_yes hx) (c1 (lpS fd p c τ)) hm (li_2 (by decide : 100 ≤ 252) (c2 _ _ ge)))⟩
  · obtain ⟨b, c1, c2⟩ := lap_field C hp G hf z
    obtain ⟨m2, hm⟩ := hm (sv (p.owner ++ "." ++ f))
    have sp := split_fld hf (lpS fd p c τ)
    exact ⟨_, _, li_0 sp.1 hm (li_1f fld_no (c1 (lpS fd p c τ)) sp.2 hm (li_2 (by decide : 160 ≤ 252) (c2 _ _ ge)))⟩
inductive LiI (fd : Cell) (p : Plan) (c : Nat) (cells : List Int) (hV l w : V) (xs : List (String × V)) (m : M) (s : List Cell) : Prop
  | mk (ys : List (String × V)) (τ : List Cell) (es : s = lpS fd p c τ) (ln : labL p = ys ++ xs) (hm : LaB p cells hV l w m) (hg : ys = [] ∨ ∃ u n fo a, m = lpG p cells hV l w u n fo a)
theorem li_for (hp : PlanOk p) (G : Good p γ α β) (hm : LaB p cells (hG p γ) l w m) (τ : List Cell) : ∃ τ' u n fo a, ForP (ev C tab 257) [] laN (tgA liF) liB (labV p) m (lpS fd p c τ) .next (lpG p cells (hG p γ) l w u n fo a) (lpS fd p c τ') := by
  obtain ⟨m', s', i, t⟩ := for_gen (r := ev C tab 257) (lk := []) (nk := laN) (body := liB) (tgt := tgA liF) (g := labP) (I := LiI fd p c cells (hG p γ) l w) (fun q xs m s i => by
    obtain ⟨ys, τ, rfl, ln, hm, _⟩ := i
    obtain ⟨m1, e, hx⟩ := hm.turn q
    obtain ⟨u, n, t⟩ := li_turn (C := C) (fd := fd) (c := c) (τ := τ) hp G (ln ▸ List.mem_append_right _ (.head _)) hx
    exact ⟨m1, _, _, e, t, ⟨ys ++ [q], _, rfl, ln.trans (List.append_assoc ys [q] xs).symm, .c _ _ _ _, .inr ⟨_, _, _, _, rfl⟩⟩⟩) (labL p) (m := m) (σ := lpS fd p c τ) ⟨[], τ, rfl, rfl, hm, .inl rfl⟩
  obtain ⟨ys, τ', rfl, ln, _, hg⟩ := i
  rw [List.append_nil] at ln
  subst ln
  obtain ⟨u, n, fo, a, rfl⟩ := hg.resolve_left fun h => by
    have := congrArg List.length h
    unfold labL at this
    rw [List.length_append] at this
    cases ht : p.two <;> rw [ht] at this <;> exact absurd this (Nat.succ_ne_zero _)
  exact ⟨τ', u, n, fo, a, labV_eq p ▸ t []⟩
inductive LoI (p : Plan) (c : Nat) (cs cells : List Int) (xs : List Nat) (m : M) (s : List Cell) : Prop
  | mk (k : Nat) (τ : List Cell) (es : s = lpS (feedC cs k) p c τ) (hk : k + 40 * xs.length ≤ 8000) (hm : (∃ w v, m = mD p cells w v) ∨ ∃ hV l w u n fo a, m = lpG p cells hV l w u n fo a)
theorem lo_turn (hp : PlanOk p) (hc : cs.length ≤ 1000) (hk : k + 40 ≤ 8000) (hm : (∃ w v, m = mD p cells w v) ∨ ∃ hV l w u n fo a, m = lpG p cells hV l w u n fo a) (i : Nat) (τ : List Cell) : ∃ m1 m' k' τ', tgtN laN (tgA lpF) (.int i) m = some m1 ∧ To2 (fun q => (ev C tab 259).x [] laN lpB q m1 (lpS (feedC cs k) p c τ)) .next m' (lpS (feedC cs k') p c τ') ∧ k' ≤ k + 40 ∧ ∃ hV l w u n fo a, m' = lpG p cells hV l w u n fo a := by
  obtain ⟨γ, α, β, G, k', hk', ci⟩ := inst_ok C hp.ow hp.kind hc (Nat.le_trans hk (by decide)) (lpS (feedC cs k) p c τ).tail
  have o := fun E (e : E) => ob ci (ob (keep_nil (lpS (feedC cs k) p c τ) (lpS (feedC cs k') p c τ)) e)
  rcases hm with ⟨w, v, rfl⟩ | ⟨hV, l, w, u, n, fo, a, rfl⟩
  · obtain ⟨τ', u, n, fo, a, f⟩ := li_for (C := C) (fd := feedC cs k') (c := c) hp G (.a (cells := cells) (l := .int i) (w := w) v) τ
    have t0 : To2 (Seg (ev C tab 258) [] laN 743028 (lpB.drop 1) ((S "here", hG p γ) :: (S "lap", .int i) :: mD p cells w v) (lpS (feedC cs k') p c τ)) .next (lpG p cells (hG p γ) (.int i) w u n fo a) (lpS (feedC cs k') p c τ') := seg_of (q := [.f 743028 .next (lpG p cells (hG p γ) (.int i) w u n fo a) (lpS (feedC cs k') p c τ')]) (fun _ e => ob f e) fun k => by kernel_rfl
    exact ⟨(S "lap", .int i) :: mD p cells w v, lpG p cells (hG p γ) (.int i) w u n fo a, k', τ', (by kernel_rfl), body_x t0 (q1 := fun q => .d 742040 100 (hG p γ) (lpS (feedC cs k') p c τ) :: .m 743028 :: q) o fun X k q => by kernel_rfl, hk', hG p γ, .int i, w, u, n, fo, a, rfl⟩
  · obtain ⟨τ', u', n', fo', a', f⟩ := li_for (C := C) (fd := feedC cs k') (c := c) hp G (.b (cells := cells) (l := .int i) (w := w) u n fo a) τ
    have t0 : To2 (Seg (ev C tab 258) [] laN 743028 (lpB.drop 1) ((S "here", hG p γ) :: (S "lap", .int i) :: (S "holds", u) :: (S "name", n) :: (S "formula", fo) :: (S "label", a) :: (S "is_told", w) :: lm7 p cells) (lpS (feedC cs k') p c τ)) .next (lpG p cells (hG p γ) (.int i) w u' n' fo' a') (lpS (feedC cs k') p c τ') := seg_of (q := [.f 743028 .next (lpG p cells (hG p γ) (.int i) w u' n' fo' a') (lpS (feedC cs k') p c τ')]) (fun _ e => ob f e) fun k => by kernel_rfl
    exact ⟨(S "lap", .int i) :: (S "holds", u) :: (S "name", n) :: (S "formula", fo) :: (S "label", a) :: (S "here", hV) :: (S "is_told", w) :: lm7 p cells, lpG p cells (hG p γ) (.int i) w u' n' fo' a', k', τ', (by kernel_rfl), body_x t0 (q1 := fun q => .d 742040 100 (hG p γ) (lpS (feedC cs k') p c τ) :: .m 743028 :: q) o fun X k q => by kernel_rfl, hk', hG p γ, .int i, w, u', n', fo', a', rfl⟩
theorem la_end (hp : PlanOk p) (hc : cs.length ≤ 1000) (w v : V) : ∃ mf sf, laT C 741028 260 10 (mD p cells w v) (lpS (feedC cs 15) p c []) (.ret (.bool true)) mf sf := by
  obtain ⟨m', s', i, t⟩ := for_gen (r := ev C tab 259) (lk := []) (nk := laN) (body := lpB) (tgt := tgA lpF) (g := fun i : Nat => V.int i) (I := LoI p c cs cells) (fun i xs m s h => by
    obtain ⟨k, τ, rfl, hk, hm⟩ := h
    have k3 : k + 40 + 40 * xs.length ≤ 8000 := Nat.le_trans (Nat.le_of_eq ((Nat.add_assoc k 40 (40 * xs.length)).trans (congrArg (k + ·) (Nat.add_comm 40 (40 * xs.length))))) hk
    obtain ⟨m1, m', k', τ', e, t, hk', hg⟩ := lo_turn (C := C) (c := c) hp hc (Nat.le_trans (Nat.le_add_right ..) k3) hm i τ
    exact ⟨m1, m', _, e, t, ⟨k', τ', rfl, Nat.le_trans (Nat.add_le_add_right hk' _) k3, .inr hg⟩⟩) [0, 1, 2, 3] (m := mD p cells w v) (σ := lpS (feedC cs 15) p c []) ⟨15, [], rfl, by decide, .inl ⟨_, _, rfl⟩⟩
  obtain ⟨k, τ, rfl, _, hm⟩ := i
  have a11 : laT C 751015 259 11 m' (lpS (feedC cs k) p c τ) (.ret (.bool true)) m' (lpS (feedC cs k) p c τ) := by
    rcases hm with ⟨w, v, rfl⟩ | ⟨hV, l, w, u, n, fo, a, rfl⟩
    · exact seg_of (q := []) (fun _ e => e) fun k => by kernel_rfl
    · exact seg_of (q := []) (fun _ e => e) fun k => by kernel_rfl
  exact ⟨m', _, seg_seq a11 (q1 := fun q => .f 741028 .next m' (lpS (feedC cs k) p c τ) :: .m 751015 :: q) (fun _ e => ob (t []) e) fun k q => by kernel_rfl⟩
theorem law_con (C : Cx) (cells : List Int) (l : cells.length ≤ 1000) : ∃ sf, Con C tab 270 f_law [.lst (cells.map .int)] [] (.bool true) sf := by
  have hp := planOk (csD cells)
  have hc : (csD cells).length ≤ 1000 := Nat.le_trans (Nat.le_of_eq (List.length_map _)) (Nat.le_trans (List.length_take_le 60 cells) (by decide))
  obtain ⟨w, v, f⟩ := du_for (C := C) (fd := feedC (csD cells) 15) (p := planD (csD cells)) (c := cntV (planD (csD cells))) (cells := cells)
  obtain ⟨mf, sf, t⟩ := la_end (C := C) (c := cntV (planD (csD cells))) (cells := cells) hp hc w v
  exact ⟨sf, con_x (retK fun q d s => d = .bool true ∧ s = sf) (la_03 l (la_45 (la_67 hp (la_89 f t)))) ⟨rfl, rfl⟩ fun X q => by kernel_rfl⟩
end

def fdOf (d : Data) : Option FuncData := @Data.casesOn (fun _ => Option FuncData) d none (fun _ => none) (fun _ _ => none) (fun _ _ => none) (fun _ _ _ => none) (fun _ _ => none) (fun _ => none) some (fun _ => none) (fun _ => none) none
def sqOf (d : Data) : Option (List Value × Nat) := @Data.casesOn (fun _ => Option (List Value × Nat)) d none (fun _ => none) (fun v n => some (v.toList, n)) (fun _ _ => none) (fun _ _ _ => none) (fun _ _ => none) (fun _ => none) (fun _ => none) (fun _ => none) (fun _ => none) none
def dcOf (d : Data) : Option (Array DictEntry × Nat) := @Data.casesOn (fun _ => Option (Array DictEntry × Nat)) d none (fun _ => none) (fun _ _ => none) (fun v n => some (v, n)) (fun _ _ _ => none) (fun _ _ => none) (fun _ => none) (fun _ => none) (fun _ => none) (fun _ => none) none
theorem fdOf_ok {d : Data} {f : FuncData} : fdOf d = some f → d = .func f := @Data.casesOn (fun d => fdOf d = some f → d = .func f) d none_ne (fun _ => none_ne) (fun _ _ => none_ne) (fun _ _ => none_ne) (fun _ _ _ => none_ne) (fun _ _ => none_ne) (fun _ => none_ne) (fun _ h => congrArg _ (Option.some.inj h)) (fun _ => none_ne) (fun _ => none_ne) none_ne
theorem sqOf_ok {d : Data} {p : List Value × Nat} : sqOf d = some p → d = .seq p.1.toArray p.2 := @Data.casesOn (fun d => sqOf d = some p → d = .seq p.1.toArray p.2) d none_ne (fun _ => none_ne) (fun _ _ h => Option.some.inj h ▸ rfl) (fun _ _ => none_ne) (fun _ _ _ => none_ne) (fun _ _ => none_ne) (fun _ => none_ne) (fun _ => none_ne) (fun _ => none_ne) (fun _ => none_ne) none_ne
theorem dcOf_ok {d : Data} {p : Array DictEntry × Nat} : dcOf d = some p → d = .dict p.1 p.2 := @Data.casesOn (fun d => dcOf d = some p → d = .dict p.1 p.2) d none_ne (fun _ => none_ne) (fun _ _ => none_ne) (fun _ _ h => Option.some.inj h ▸ rfl) (fun _ _ _ => none_ne) (fun _ _ => none_ne) (fun _ => none_ne) (fun _ => none_ne) (fun _ => none_ne) (fun _ => none_ne) none_ne
abbrev FnV := Arguments × FuncBody × Scope × Addr × Addr × List (Str × Addr) × Value × Bool × Bool × Bool × Bool × Bool × Bool × ScopeKind × Bool
abbrev OV := Option (Option Value)
def fnView (K : Frag) (F : FnT) : Option FnV := (K.lookup F.addr).bind fun o => (fdOf o.data).map fun fd => (fd.params, fd.body, fd.scope, fd.globals, fd.builtins, fd.closure, fd.defaults, codeIn K fd.code fd.qualname,
  ndF (F.as.map (·.arg)), ((F.as.map (·.arg)).all fun y => (F.sc.names.lookup y == some .local || F.sc.names.lookup y == some .cell) && !(y == ("__debug__" : Str)) && !(y == ("__classdict__" : Str))),
  ndF ((cellsFrom 0 F.sc.names []).map (·.1)), F.sc.isCoroutine, F.sc.isGenerator, F.sc.kind, F.sc.names.all fun p => !(p.2 == .free))
def fnW (F : FnT) : FnV := ((⟨[], F.as, none, [], [], none, []⟩ : Arguments), FuncBody.stmts F.body, F.sc, mainGlobals, builtinsNs, ([] : List (Str × Addr)), Value.none, true, true, true, true, false, false, ScopeKind.function, true)
theorem fn_of {C : Cx} {F : FnT} (h : fnView C.K F = some (fnW F)) : FnOk C F := by
  obtain ⟨o, ho, h⟩ := Option.bind_eq_some_iff.mp h
  obtain ⟨fd, hf, e⟩ := Option.map_eq_some_iff.mp h
  have e2 := congrArg Prod.snd e
  have e3 := congrArg Prod.snd e2
  have e4 := congrArg Prod.snd e3
  have e5 := congrArg Prod.snd e4
  have e6 := congrArg Prod.snd e5
  have e7 := congrArg Prod.snd e6
  have e8 := congrArg Prod.snd e7
  have e9 := congrArg Prod.snd e8
  have e10 := congrArg Prod.snd e9
  have e11 := congrArg Prod.snd e10
  have e12 := congrArg Prod.snd e11
  have e13 := congrArg Prod.snd e12
  have e14 := congrArg Prod.snd e13
  exact ⟨⟨fd, ⟨o.cls, o.dict, o.slots, ho.trans (congrArg (fun d => some (Obj.mk o.cls o.dict d o.slots)) (fdOf_ok hf))⟩, congrArg Prod.fst e, congrArg Prod.fst e2, congrArg Prod.fst e3, congrArg Prod.fst e4, congrArg Prod.fst e5, congrArg Prod.fst e6, congrArg Prod.fst e7, congrArg Prod.fst e8, ndF_ok (congrArg Prod.fst e9), congrArg Prod.fst e10, ndF_ok (congrArg Prod.fst e11), congrArg Prod.fst e12, congrArg Prod.fst e13, congrArg Prod.fst e14⟩,
    fun x n => ft (List.all_eq_true.mp (congrArg Prod.snd e14) (x, .free) (mem_of_lookup n))⟩
theorem map_mem {α β : Type} {f g : α → β} {l : List α} (h : l.map f = l.map g) {a : α} (m : a ∈ l) : f a = g a := by
  induction l with
  | nil => exact nomatch m
  | cons x r ih => exact (List.mem_cons.mp m).elim (fun e => e ▸ (List.cons.inj h).1) (ih (List.cons.inj h).2)
def mtL (K : Frag) (a : Addr) (q : Str × FnT) := (findIn K (.ref a) q.1, typeIn K (.ref q.2.addr), fnView K q.2)
def mtR (q : Str × FnT) : OV × Option Value × Option FnV := (some (some (.ref q.2.addr)), some (.type "function"), some (fnW q.2))
def clL (K : Frag) (p : Str × ClsT) := (nsIn K mainGlobals p.1, makesIn K p.2.addr, findIn K (.ref p.2.addr) "__init__", typeIn K (.ref p.2.init.addr), keepIn K (.ref p.2.addr), fnView K p.2.init,
  findIn K (.ref p.2.addr) "__getattribute__", findIn K (.ref p.2.addr) "__getattr__", findIn K (.ref p.2.addr) "__setattr__", (clsIn K p.2.addr).any (·.hasDict), plainOver K p.2.addr,
  p.2.meths.map (mtL K p.2.addr), p.2.attrs.map fun q => (findIn K (.ref p.2.addr) q, takerIn K p.2.addr q))
def clR (p : Str × ClsT) : OV × Bool × OV × Option Value × Bool × Option FnV × OV × OV × OV × Bool × Bool × List (OV × Option Value × Option FnV) × List (OV × OV) := (some (some (.ref p.2.addr)), true, some (some (.ref p.2.init.addr)), some (.type "function"), true, some (fnW p.2.init),
  some (some (.builtin "object.__getattribute__")), some none, some (some (.builtin "object.__setattr__")), true, true,
  p.2.meths.map mtR, p.2.attrs.map fun _ => (some none, some none))
theorem clsOf_mem {T : Tab} {c : Addr} {K : ClsT} (h : clsOf T c = some K) : ∃ x, (x, K) ∈ T.cls ∧ K.addr = c := by
  obtain ⟨p, hp, e⟩ := Option.map_eq_some_iff.mp h
  exact ⟨p.1, e ▸ List.mem_of_find?_eq_some hp, e ▸ (eq_of_beq (List.find?_some (p := fun p : Str × ClsT => p.2.addr == c) hp) : p.2.addr = c)⟩
def buL (K : Frag) (x : Str) : OV × Option Value × Bool := (nsIn K mainGlobals x, bootBuiltins x, sq x "__name__")
def buR (v : Value) : OV × Option Value × Bool := (some none, some v, false)
theorem bu_of {C : Cx} {x : Str} {v : Value} (e : buL C.K x = buR v) : Bui C x v := ⟨congrArg Prod.fst e, congrArg Prod.fst (congrArg Prod.snd e), fun q => tf ((sq_iff.mpr q).symm.trans (congrArg Prod.snd (congrArg Prod.snd e)))⟩
def gloA (K : Frag) (x : Str) : Option Addr := (nsIn K mainGlobals x).bind fun o => o.bind fun v => @Value.casesOn (fun _ => Option Addr) v none none none (fun _ => none) (fun _ _ => none) (fun _ _ => none) (fun _ _ => none) (fun _ _ => none) (fun _ => none) (fun _ => none) some
theorem gloA_ok {K : Frag} {x : Str} {a : Addr} (h : gloA K x = some a) : nsIn K mainGlobals x = some (some (.ref a)) := by
  obtain ⟨o, e1, h⟩ := Option.bind_eq_some_iff.mp h
  obtain ⟨v, e2, h⟩ := Option.bind_eq_some_iff.mp h
  refine e1.trans (congrArg some (e2.trans (congrArg some ?_)))
  revert h
  exact @Value.casesOn (fun v => Value.casesOn (motive := fun _ => Option Addr) v none none none (fun _ => none) (fun _ _ => none) (fun _ _ => none) (fun _ _ => none) (fun _ _ => none) (fun _ => none) (fun _ => none) some = some a → v = .ref a) v none_ne none_ne none_ne (fun _ => none_ne) (fun _ _ => none_ne) (fun _ _ => none_ne) (fun _ _ => none_ne) (fun _ _ => none_ne) (fun _ => none_ne) (fun _ => none_ne) fun _ h => congrArg _ (Option.some.inj h)
def stOf (v : Value) : Option (Str × Bool) := @Value.casesOn (fun _ => Option (Str × Bool)) v none none none (fun _ => none) (fun _ _ => none) (fun _ _ => none) (fun s _ => some (s, okF s.cps.toList)) (fun _ _ => none) (fun _ => none) (fun _ => none) (fun _ => none)
theorem stOf_ok {v : Value} {x : Str} : stOf v = some (x, true) → ∃ t, v = .str x t ∧ okF x.cps.toList = true := @Value.casesOn (fun v => stOf v = some (x, true) → ∃ t, v = .str x t ∧ okF x.cps.toList = true) v none_ne none_ne none_ne (fun _ => none_ne) (fun _ _ => none_ne) (fun _ _ => none_ne) (fun s t h => ⟨t, congrArg (Value.str · t) (congrArg Prod.fst (Option.some.inj h)), (congrArg (fun p : Str × Bool => okF p.1.cps.toList) (Option.some.inj h)).symm.trans (congrArg Prod.snd (Option.some.inj h))⟩) (fun _ _ => none_ne) (fun _ => none_ne) (fun _ => none_ne) (fun _ => none_ne)
def tuL (K : Frag) (x : Str) : Option (Value × Option Addr × Array (Option Value) × List (Option (Str × Bool))) := (gloA K x).bind fun a => (K.lookup a).bind fun o => (sqOf o.data).map fun p => (o.cls, o.dict, o.slots, p.1.map stOf)
def tuR (l : List Str) : Option (Value × Option Addr × Array (Option Value) × List (Option (Str × Bool))) := some (.type "tuple", none, #[], l.map fun x => some (x, true))
def diL (K : Frag) (x : Str) : Option (Value × Option Addr × Array (Option Value) × Bool × List (Int × Option (Str × Bool) × Option (Str × Bool))) := (gloA K x).bind fun a => (K.lookup a).bind fun o => (dcOf o.data).map fun p => (o.cls, o.dict, o.slots, a == sysModules, p.1.toList.map fun e => (e.hash, stOf e.key, stOf e.val))
def diR (w : World) (l : List (Str × Str)) : Option (Value × Option Addr × Array (Option Value) × Bool × List (Int × Option (Str × Bool) × Option (Str × Bool))) := some (.type "dict", none, #[], false, l.map fun p => (hashStr w p.1, some (p.1, true), some (p.2, true)))
section
variable {C : Cx}
def GlP (C : Cx) (x : Str) (d : V) : Prop := ∃ v, Glo C x v ∧ ∀ h ρ σ, St C h ρ σ → C.K.In h → Rep C h ρ v d
theorem off_of (ok : C.Ok) {h : Heap} {ρ : Rg} {σ : List Cell} (S : St C h ρ σ) {a : Addr} {o : Obj} (e : C.K.lookup a = some o) : a ∉ ρ.l ∧ a ∉ ρ.f := ⟨fun m => no_both (S.off a (.inl m)) (ok.KB _ _ e), fun m => no_both (S.off a (.inr m)) (ok.KB _ _ e)⟩
theorem rep_st {h : Heap} {ρ : Rg} {v : Value} {x : Str} (e : stOf v = some (x, true)) : Rep C h ρ v (.str x) := by
  obtain ⟨t, rfl, k⟩ := stOf_ok e
  exact .str x t ((okF_eq x).symm.trans k)
theorem rep_sts {h : Heap} {ρ : Rg} : ∀ {vs : List Value} {l : List Str}, vs.map stOf = l.map (fun x => some (x, true)) → RepL C h ρ vs (sv1 l)
  | [], [], _ => .nil
  | [], _ :: _, e => nomatch e
  | _ :: _, [], e => nomatch e
  | v :: vs, x :: l, e => .cons (rep_st (List.cons.inj e).1) (rep_sts (List.cons.inj e).2)
theorem tu_of (ok : C.Ok) {x : Str} {l : List Str} (e : tuL C.K x = tuR l) : GlP C x (.tup (sv1 l)) := by
  obtain ⟨a, ha, e⟩ := Option.bind_eq_some_iff.mp e
  obtain ⟨o, ho, e⟩ := Option.bind_eq_some_iff.mp e
  obtain ⟨p, hp, e⟩ := Option.map_eq_some_iff.mp e
  obtain ⟨c, d, t, s⟩ := o
  obtain rfl := (sqOf_ok hp : t = _)
  obtain rfl : c = .type "tuple" := congrArg Prod.fst e
  have e2 := congrArg Prod.snd e
  obtain rfl : d = none := congrArg Prod.fst e2
  have e3 := congrArg Prod.snd e2
  obtain rfl : s = #[] := congrArg Prod.fst e3
  exact ⟨_, gloA_ok ha, fun h ρ σ S X => .tup (off_of ok S ho).1 (off_of ok S ho).2 (X _ _ ho) (rep_sts (congrArg Prod.snd e3))⟩
theorem rep_di {h : Heap} {ρ : Rg} : ∀ {es : List DictEntry} {l : List (Str × Str)}, es.map (fun e => (e.hash, stOf e.key, stOf e.val)) = l.map (fun p => (hashStr C.w p.1, some (p.1, true), some (p.2, true))) →
    ∃ xs : List (Str × Value), Pairs C.sk es xs ∧ RepK C h ρ xs (l.map fun p => (p.1, .str p.2)) ∧ ∀ e ∈ es, ∃ k, C.sk.is k e.key = true ∧ e.hash = C.sk.hash k
  | [], [], _ => ⟨[], .nil, .nil, fun _ m => nomatch m⟩
  | [], _ :: _, e => nomatch e
  | _ :: _, [], e => nomatch e
  | e :: es, p :: l, q => by
    obtain ⟨xs, a, b, c⟩ := rep_di (h := h) (ρ := ρ) (List.cons.inj q).2
    have q1 := (List.cons.inj q).1
    have q2 := congrArg Prod.snd q1
    obtain ⟨t, ek, _⟩ := stOf_ok (congrArg Prod.fst q2)
    have i : C.sk.is p.1 e.key = true := ek ▸ strKind_is _ _ _ _
    exact ⟨(p.1, e.val) :: xs, .cons i rfl a, .cons (rep_st (congrArg Prod.snd q2)) b, fun e' m => (List.mem_cons.mp m).elim (fun z => z ▸ ⟨p.1, i, congrArg Prod.fst q1⟩) (c e')⟩
theorem di_of (ok : C.Ok) {x : Str} {l : List (Str × Str)} (e : diL C.K x = diR C.w l) (n : ndF (l.map (·.1)) = true) : GlP C x (.dct (l.map fun p => (p.1, .str p.2))) := by
  obtain ⟨a, ha, e⟩ := Option.bind_eq_some_iff.mp e
  obtain ⟨o, ho, e⟩ := Option.bind_eq_some_iff.mp e
  obtain ⟨p, hp, e⟩ := Option.map_eq_some_iff.mp e
  obtain ⟨c, d, t, s⟩ := o
  obtain rfl := (dcOf_ok hp : t = _)
  obtain rfl : c = .type "dict" := congrArg Prod.fst e
  have e2 := congrArg Prod.snd e
  obtain rfl : d = none := congrArg Prod.fst e2
  have e3 := congrArg Prod.snd e2
  obtain rfl : s = #[] := congrArg Prod.fst e3
  have e4 := congrArg Prod.snd e3
  refine ⟨_, gloA_ok ha, fun h ρ σ S X => ?_⟩
  obtain ⟨xs, q1, q2, q3⟩ := rep_di (C := C) (h := h) (ρ := ρ) (congrArg Prod.snd e4)
  refine .dct (congrArg Prod.fst e4) (off_of ok S ho).1 (off_of ok S ho).2 (X _ _ ho) ⟨p.1, p.2, ⟨rfl, rfl, rfl⟩, rfl, fun e m => q3 e (Array.mem_toList_iff.mpr m), q1, ?_⟩ q2
  rw [q2.keys, List.map_map]
  exact ndF_ok n
def sg2 : List (Str × Str) := [("+", "union"), ("&", "meet"), ("-", "minus"), (".", "join"), ("++", "override"), ("<:", "ahead"), (":>", "behind")]
def tuA : List (Str × List Str) := [("THIS", ["var", "this"]), ("NUMBER_HEADS", ["num", "count", "plus", "less", "times", "sum", "choose"]), ("TRUTH_HEADS", ["true", "false", "not", "and", "or", "implies", "iff", "in", "same", "some", "no", "one", "lone", "all", "exists", "le", "lt", "eq"])]
def tuB : List (Str × List Str) := [("TURNED", ["~", "^", "*"]), ("_law_MULTS", ["", "one", "lone", "some", "set"])]
theorem tu_mem (ok : C.Ok) {l : List (Str × List Str)} (k : l.map (fun p => tuL C.K p.1) = l.map fun p => tuR p.2) {x : Str × V} (m : x ∈ l.map fun p => (p.1, V.tup (sv1 p.2))) : GlP C x.1 x.2 := by
  obtain ⟨q, m', rfl⟩ := List.mem_map.mp m
  exact tu_of ok (map_mem k m')
structure KOk (K : Frag) (w : World) : Prop where
  fns : tab.fns.map (fun p => (nsIn K mainGlobals p.1, fnView K p.2)) = tab.fns.map fun p => (some (some (.ref p.2.addr)), some (fnW p.2))
  cls : tab.cls.map (clL K) = tab.cls.map clR
  bui : [("len" : Str), "list", "tuple", "dict", "abs", "range", "enumerate", "set"].map (buL K) = [.builtin "len", .type "list", .type "tuple", .type "dict", .builtin "abs", .type "range", .type "enumerate", .type "set"].map buR
  tua : tuA.map (fun p => tuL K p.1) = tuA.map fun p => tuR p.2
  tub : tuB.map (fun p => tuL K p.1) = tuB.map fun p => tuR p.2
  sgs : diL K "SET_SIGNS" = diR w sg2
  nd : ndF (sg2.map (·.1)) = true
  law : (nsIn K mainGlobals "law", fnView K f_law) = (some (some (.ref f_law.addr)), some (fnW f_law))
  big : Nat.blt sysModules f_law.addr = true
theorem tab_ok (ok : C.Ok) (k : KOk C.K C.w) : TabOk C tab where
  bui :=
    have h1 := List.cons.inj k.bui
    have h2 := List.cons.inj h1.2
    have h3 := List.cons.inj h2.2
    have h4 := List.cons.inj h3.2
    have h5 := List.cons.inj h4.2
    have h6 := List.cons.inj h5.2
    have h7 := List.cons.inj h6.2
    have h8 := List.cons.inj h7.2
    ⟨bu_of h1.1, bu_of h2.1, bu_of h3.1, bu_of h4.1, bu_of h5.1, bu_of h6.1, bu_of h7.1, bu_of h8.1⟩
  fns x F h :=
    have e := map_mem k.fns (mem_of_lookup h)
    ⟨congrArg Prod.fst e, fn_of (congrArg Prod.snd e)⟩
  cls x K h :=
    have e := map_mem k.cls (mem_of_lookup h)
    have e2 := congrArg Prod.snd e
    have e3 := congrArg Prod.snd e2
    have e4 := congrArg Prod.snd e3
    have e5 := congrArg Prod.snd e4
    ⟨congrArg Prod.fst e, ⟨congrArg Prod.fst e2, congrArg Prod.fst e3, congrArg Prod.fst e4, congrArg Prod.fst e5⟩, fn_of (congrArg Prod.fst (congrArg Prod.snd e5))⟩
  meth c K h := by
    obtain ⟨x, m, rfl⟩ := clsOf_mem h
    have e := congrArg (fun p => p.2.2.2.2.2.2) (map_mem k.cls m)
    have e2 := congrArg Prod.snd e
    have e3 := congrArg Prod.snd e2
    have e4 := congrArg Prod.snd e3
    have e5 := congrArg Prod.snd e4
    have e6 := congrArg Prod.snd e5
    refine ⟨⟨congrArg Prod.fst e, congrArg Prod.fst e2, congrArg Prod.fst e3, any_some (congrArg Prod.fst e4), congrArg Prod.fst e5⟩, fun name F hF => ?_, fun name ha => ?_⟩
    · have e := map_mem (congrArg Prod.fst e6) (mem_of_lookup hF)
      exact ⟨congrArg Prod.fst e, congrArg Prod.fst (congrArg Prod.snd e), fn_of (congrArg Prod.snd (congrArg Prod.snd e))⟩
    · have e := map_mem (congrArg Prod.snd e6) (List.contains_iff_mem.mp ha)
      exact ⟨congrArg Prod.fst e, congrArg Prod.snd e⟩
  glos x d h :=
    have m : (x, d) ∈ tuA.map (fun p => (p.1, V.tup (sv1 p.2))) ++ ((("SET_SIGNS" : Str), V.dct (sg2.map fun p => (p.1, .str p.2))) :: tuB.map fun p => (p.1, V.tup (sv1 p.2))) := mem_of_lookup h
    show GlP C (x, d).1 (x, d).2 from (List.mem_append.mp m).elim (tu_mem ok k.tua) fun m => (List.mem_cons.mp m).elim (fun e => e ▸ di_of ok k.sgs k.nd) (tu_mem ok k.tub)
theorem ints_rep {h : Heap} {ρ : Rg} {vs : List Value} {ns : List Int} (i : IntsAre vs ns) : RepL C h ρ vs (ns.map .int) := i.rec (motive := fun vs ns _ => RepL C h ρ vs (ns.map .int)) .nil fun n t _ _ _ r => .cons (.int n t) r
end
theorem join {K : Params → Frag} {prog : Program} {w : World} {s1 : Shared} {mg mb : Str → Option Value} {fa a : Addr} {vs : List Value} {n : Nat} {cells : List Int} (k : ∀ w : World, KOk (K w.params) w) (hg : s1.gens = #[])
    (KX : (K w.params).In s1.heap) (hmg : mg (Str.ofString "law") = some (.ref fa)) (g : s1.heap.Ns mainGlobals mg) (b : s1.heap.Ns builtinsNs mb) (nl : s1.heap.NoLimit) (bs : ∀ x : Str, x ≠ "__name__" → mb x = bootBuiltins x)
    (ha : s1.heap.get? a = some (lstO vs n)) (hI : IntsAre vs cells) (hc : cells.length ≤ 1000) {E : Value → Shared → Prop} :
    wpAny (model prog w) callerA (call (.ref fa) [.ref a]) (fun v s' => v = .bool true ∧ (∀ b o, s1.heap.get? b = some o → s'.heap.get? b = some o) ∧ s'.os = s1.os ∧ s'.gens = #[]) E s1 := by
  have z := k w
  have FO := fn_of (C := ⟨prog, w, s1.heap, K w.params, mg, mb⟩) (congrArg Prod.snd z.law)
  obtain ⟨fd, oc, od, osl, hk⟩ := FO.is.imp fun _ i => i.look
  have ok : Cx.Ok ⟨prog, w, s1.heap, K w.params, mg, mb⟩ := ⟨KX, g, b, nl, bs, Nat.lt_trans (Nat.blt_eq.mp z.big) (Heap.lt_size (KX _ _ hk))⟩
  obtain rfl : fa = f_law.addr := Value.ref.inj (Option.some.inj (hmg.symm.trans (mg_of KX g (congrArg Prod.fst z.law))))
  obtain ⟨sf, con⟩ := law_con ⟨prog, w, s1.heap, K w.params, mg, mb⟩ cells hc
  have st : St ⟨prog, w, s1.heap, K w.params, mg, mb⟩ s1.heap ⟨[], []⟩ [] := ⟨rfl, List.nodup_nil, fun _ _ _ e => none_ne e, fun _ _ e => e, fun a m => m.elim (fun m => (nomatch m)) fun m => (nomatch m), fun a m => (nomatch m), fun a m => (nomatch m)⟩
  have R : RepL ⟨prog, w, s1.heap, K w.params, mg, mb⟩ s1.heap ⟨[], []⟩ [.ref a] [.lst (cells.map .int)] := .cons (.lst (fun m => (nomatch m)) (fun m => (nomatch m)) ha (ints_rep hI)) .nil
  refine wpAny_mono ((con (tab_ok ok z) FO).run (A := callerA) ⟨ok, ⟨rfl, by decide, by decide⟩, st⟩ R) ?_ fun _ _ x => x.elim
  rintro v s' ⟨d, h', tk, ρ', σ2, rfl, gr, st', rp, rfl, rfl⟩
  exact ⟨rp.sees, fun b o e => gr.kp b o (fun m => (nomatch m)) (fun m => (nomatch m)) e, rfl, hg⟩
theorem post_ok (x : WData) : PySem.Challenge.rw_nu0255_01.row.claim.post [x] (.bool true) [x] = true := by kernel_rfl
namespace top
def tw10001883323181062329:=0
def tw10005945817407372193:=0
def tw10008474027749305400:=0
def tw10017263926548143515:=0
def tw10079171474624433434:=0
def tw10090393231696489298:=0
def tw1016984595167383106:=0
def tw10187724287525710026:=0
def tw10242591131026960117:=0
def tw10252623693936335467:=0
def tw10276331973627342096:=0
def tw10296497611174029103:=0
def tw10341860258655708415:=0
def tw10361075674979980167:=0
def tw10362775142378211054:=0
def tw10367675484739944270:=0
def tw10399464001100048223:=0
def tw10404823597219466188:=0
def tw1040915598704419856:=0
def tw10414433010598505635:=0
def tw104434173382791472:=0
def tw10448899703829047738:=0
def tw10467260515200827399:=0
def tw10478281044441265007:=0
def tw1047907039808853306:=0
def tw105208000716104510:=0
def tw10548783162686979305:=0
def tw10567129059001840431:=0
def tw10574840078274726829:=0
def tw10579768621468169598:=0
def tw10617020205504526918:=0
def tw10643057118474118344:=0
def tw10657950659306570408:=0
def tw1068965626710143233:=0
def tw10694878333477680388:=0
def tw10773188271377071773:=0
def tw10774637447528242797:=0
def tw10783980745131425670:=0
def tw10801874191123338550:=0
def tw10836530967397901330:=0
def tw10864713392326063847:=0
def tw10871174231137468428:=0
def tw1088946173253831356:=0
def tw10915162052029792233:=0
def tw10936122117785486979:=0
def tw10956490626425055710:=0
def tw10987319290404115282:=0
def tw10996937224433265937:=0
def tw11045010717311733409:=0
def tw1108800333578037850:=0
def tw11116745826364501430:=0
def tw1112988674713690477:=0
def tw11131206648525784891:=0
def tw11133666699803404755:=0
def tw11141966352661209427:=0
def tw11159431927160009238:=0
def tw11173010173815179391:=0
def tw11189890337720088615:=0
def tw11199532085631943738:=0
def tw11199710921928265848:=0
def tw11203750815551599093:=0
def tw1123975283337734383:=0
def tw11240886729373846589:=0
def tw1124271682379634556:=0
def tw11279390925490393535:=0
def tw11334203419191126389:=0
def tw11334350811105764591:=0
def tw11334415319851112604:=0
def tw11377482038585738817:=0
def tw11383000496634168614:=0
def tw1139600151236580504:=0
def tw11423202765487971197:=0
def tw1142415686869020238:=0
def tw11430207588045935325:=0
def tw11443710868159068359:=0
def tw11459358961799972967:=0
def tw11466170419677230873:=0
def tw11468358511172941013:=0
def tw114735475811551136:=0
def tw1147548669246485465:=0
def tw11520865232209809239:=0
def tw11542710104232473196:=0
def tw11546936639936008217:=0
def tw11577829705659331004:=0
def tw11582926029173025856:=0
def tw11584198869435930015:=0
def tw11592465598724292549:=0
def tw11593399256984752444:=0
def tw11620634932572840514:=0
def tw1169771345039838236:=0
def tw11760055953109336660:=0
def tw11762496359356365647:=0
def tw1186331607622873149:=0
def tw11922380849998532372:=0
def tw1192657577511650299:=0
def tw1195175773429642966:=0
def tw11960245374511038805:=0
def tw11974890005974787928:=0
def tw11982747722937265360:=0
def tw11994683656316670133:=0
def tw12012865196380796599:=0
def tw12080426169559351053:=0
def tw12094960947251128927:=0
def tw12105128591322288922:=0
def tw12117888159696746259:=0
def tw1212798325632107971:=0
def tw12166907935582030026:=0
def tw12209182163369298222:=0
def tw12256363837256957063:=0
def tw12287887523310495049:=0
def tw12317137736924338119:=0
def tw12318557346453588183:=0
def tw12340227926317113386:=0
def tw12342655685612074800:=0
def tw12376051458212225564:=0
def tw12379415707883124570:=0
def tw12385144161495827662:=0
def tw12392516345856041104:=0
def tw12415523145999629524:=0
def tw1245559373397905713:=0
def tw12483720753089274532:=0
def tw12488038555639769405:=0
def tw12507017104952529904:=0
def tw12520176845478516731:=0
def tw12535971307161669396:=0
def tw12540527436937284434:=0
def tw12545222027267286695:=0
def tw12559286593441436923:=0
def tw12564220515667953714:=0
def tw12609604535291364189:=0
def tw12625694945159114441:=0
def tw12638030207367898728:=0
def tw12643491718579748851:=0
def tw12718909917080609646:=0
def tw1275901062530889299:=0
def tw12762922103008790111:=0
def tw12764151676501842404:=0
def tw12783364522390391256:=0
def tw12787338502077490372:=0
def tw12819366960792805191:=0
def tw1284575025550258836:=0
def tw12879618353801967718:=0
def tw12894197372075662830:=0
def tw12904532413392791838:=0
def tw1291508964198565346:=0
def tw1294077662247117797:=0
def tw12958502747184954254:=0
def tw12958664272152378060:=0
def tw1297684725254868899:=0
def tw13001836021917841797:=0
def tw13012589842206080548:=0
def tw13044034144603486326:=0
def tw13047834502658803893:=0
def tw13068111086705522682:=0
def tw13090165191389475591:=0
def tw13134186033006778460:=0
def tw13160728816969591200:=0
def tw13167462122316868159:=0
def tw13187519465064655849:=0
def tw13191473780850816973:=0
def tw1321871150748368714:=0
def tw13223034962123697568:=0
def tw13261893007816960818:=0
def tw13264354339760550358:=0
def tw13272337422414781067:=0
def tw13290321428070320777:=0
def tw13303987763403120937:=0
def tw13305523845174962083:=0
def tw13307591127769906961:=0
def tw13318506193475082254:=0
def tw13326734554550294991:=0
def tw13345470168829271861:=0
def tw13359135706311490777:=0
def tw13369591340354186047:=0
def tw13370185576492129568:=0
def tw13385244156195431271:=0
def tw13385996262653078937:=0
def tw13420762306968818387:=0
def tw13500427573557490136:=0
def tw13501252493785611398:=0
def tw1353657120722975067:=0
def tw13549259019975226677:=0
def tw13706816188851595723:=0
def tw13710211086531791108:=0
def tw13713866747541496747:=0
def tw13799840507378627052:=0
def tw13820912127525551613:=0
def tw13822267516522204269:=0
def tw13852830345959847167:=0
def tw13889309363888878346:=0
def tw13889484949932952446:=0
def tw13890846271309207196:=0
def tw13896958669275611876:=0
def tw13899568491130100285:=0
def tw13922054642007902626:=0
def tw13928562000808390012:=0
def tw1394568958698188020:=0
def tw13968125046926948103:=0
def tw13975414291046593716:=0
def tw13985988839938425345:=0
def tw13987285891283452908:=0
def tw13990698242589431971:=0
def tw13994475860397038760:=0
def tw1400011881503588481:=0
def tw14042817526060737062:=0
def tw14142502885225118848:=0
def tw14145802354927516647:=0
def tw14168018189251442112:=0
def tw14214649769353832295:=0
def tw14214845130331304391:=0
def tw14248925298954806443:=0
def tw14263998999751124003:=0
def tw14317375437502057738:=0
def tw14371913498598963198:=0
def tw14390669486469195807:=0
def tw14399976873020721970:=0
def tw14450715343900746980:=0
def tw14453841093610474573:=0
def tw14459580976405569124:=0
def tw14466935161476858967:=0
def tw14502225709538309166:=0
def tw14526540143163920134:=0
def tw14537839394382259888:=0
def tw14608685727046917156:=0
def tw14611434983143301774:=0
def tw14615657086365298920:=0
def tw14645912567700417926:=0
def tw14657780768301432306:=0
def tw146815374380898660:=0
def tw14697636140705633519:=0
def tw14705559076539443318:=0
def tw14747140909534839006:=0
def tw14762295962024373759:=0
def tw14771320824794740959:=0
def tw14789260269991461300:=0
def tw14796646475526232899:=0
def tw14823308797102314842:=0
def tw14826035006057030972:=0
def tw1483126911874232274:=0
def tw14851680436948445374:=0
def tw14901070454687303710:=0
def tw14917401599646851644:=0
def tw1492452104121835379:=0
def tw14983691940233647259:=0
def tw15058813355848621054:=0
def tw15073315481182737699:=0
def tw15125931889511115149:=0
def tw15131181735567767105:=0
def tw1516213087968936877:=0
def tw15169761463676818070:=0
def tw15212760480394562756:=0
def tw1522322319653140107:=0
def tw15240379268576122478:=0
def tw15245507539482535896:=0
def tw15271675978053873483:=0
def tw15286249088069653756:=0
def tw15299407806266782574:=0
def tw15361541807878343388:=0
def tw15362295582089109014:=0
def tw15383718091736126541:=0
def tw15451780782824253742:=0
def tw15503665604740900718:=0
def tw1551491737661789689:=0
def tw15525995667512963556:=0
def tw15542334942015070624:=0
def tw1559226430018442191:=0
def tw15638586536077026902:=0
def tw15646934709686841381:=0
def tw15687709949711836451:=0
def tw15696354942287192291:=0
def tw15722756333993289495:=0
def tw15740088241188596515:=0
def tw15740948416001004644:=0
def tw15744752440731449612:=0
def tw15799541711010589177:=0
def tw1584292188352093569:=0
def tw1585457916280141200:=0
def tw15860264024139754761:=0
def tw15874363893724204672:=0
def tw15877122091014420850:=0
def tw15878805988109762761:=0
def tw15918733279669447828:=0
def tw1592229195962567352:=0
def tw15976228082101565994:=0
def tw15985961358823992270:=0
def tw1601500998369573665:=0
def tw16034636559557993077:=0
def tw16044733080236030384:=0
def tw16054190913257422852:=0
def tw16104615914030681952:=0
def tw16149628235652541579:=0
def tw16155163154822807229:=0
def tw1617357707322924660:=0
def tw16174758807025615021:=0
def tw16196420915677631385:=0
def tw16204670001084760307:=0
def tw16240068400928781132:=0
def tw16262243036561855896:=0
def tw16264823338695392855:=0
def tw16273406610938067001:=0
def tw16325430554902658873:=0
def tw16342770487823414484:=0
def tw16352630495959832749:=0
def tw1638113669730673903:=0
def tw16414630628198896168:=0
def tw16415559393655328363:=0
def tw16420938139371093754:=0
def tw16439428074185983240:=0
def tw16509065781470453940:=0
def tw16541100652227675460:=0
def tw16550210197400561554:=0
def tw1655259298481077034:=0
def tw16580785732701462914:=0
def tw16597617366809209970:=0
def tw16612331741718818515:=0
def tw16663787254893796032:=0
def tw16674975167109581930:=0
def tw1670607248958778201:=0
def tw16713831800681072344:=0
def tw16719718919923625709:=0
def tw16734371015571099844:=0
def tw16736118626332596326:=0
def tw16759092144687519636:=0
def tw16782997733028217545:=0
def tw16795567611416646642:=0
def tw16800595933775061595:=0
def tw16809779246217341487:=0
def tw16821654228018055803:=0
def tw16836452506482946331:=0
def tw16866024460163772082:=0
def tw16878204669230926818:=0
def tw16896751376397280635:=0
def tw16900427199656544559:=0
def tw16926593981545840131:=0
def tw1697544655201012999:=0
def tw17009415399725018624:=0
def tw17022078359063049780:=0
def tw17030962893124633753:=0
def tw17033825039287860005:=0
def tw1706793611546318481:=0
def tw17085176360113175178:=0
def tw17097589658546579393:=0
def tw17103177528636943170:=0
def tw17103585973383926153:=0
def tw17135812771915316397:=0
def tw1713925317369413208:=0
def tw17177869089781658578:=0
def tw1717825165581474212:=0
def tw17219337458794519322:=0
def tw17315540178315561739:=0
def tw1732150942055357024:=0
def tw17323899518341599180:=0
def tw17342085116792181814:=0
def tw17346259052997144950:=0
def tw17355269125676882429:=0
def tw1736530178072539846:=0
def tw17395277212465857529:=0
def tw17428532607074087071:=0
def tw17469865338272021226:=0
def tw17470836177267949868:=0
def tw17474498911051797155:=0
def tw17486766287000646611:=0
def tw17492772389151264855:=0
def tw17494340499879156831:=0
def tw17542608870123051758:=0
def tw1754339480302792767:=0
def tw17555251805378815213:=0
def tw17565814175750979855:=0
def tw17576949682797635024:=0
def tw17576975557295073227:=0
def tw17582957951858275007:=0
def tw17594962761535629368:=0
def tw17620759639134147866:=0
def tw17683472795295644477:=0
def tw17735899436944072409:=0
def tw17741875731164886585:=0
def tw17774833976778514315:=0
def tw17781115878593249900:=0
def tw17783859843131274014:=0
def tw17788931634197215145:=0
def tw17795014544551873601:=0
def tw17807222030613408314:=0
def tw17828378304095215089:=0
def tw17886615442053742456:=0
def tw17953984050398360512:=0
def tw17964300760807480141:=0
def tw17981982808018919739:=0
def tw18008055252877512497:=0
def tw1803303928475200142:=0
def tw18034075008235765660:=0
def tw18062624165398249997:=0
def tw18063644159110109576:=0
def tw18064794426631996164:=0
def tw18085771088847121727:=0
def tw18086089286151905521:=0
def tw18121752080927795069:=0
def tw18134043772397237400:=0
def tw1814787853859245837:=0
def tw18164388396756303480:=0
def tw1817607043029479484:=0
def tw18177719399980262173:=0
def tw18185382058313985135:=0
def tw18186074749648716422:=0
def tw18200808041648558556:=0
def tw18237780215024852062:=0
def tw18245740138792012028:=0
def tw18289109515434150305:=0
def tw1833847959688406909:=0
def tw18367679650794681301:=0
def tw18371284783138465269:=0
def tw18374746225686918389:=0
def tw18394268562011335289:=0
def tw1843344800811705456:=0
def tw1869187583165140508:=0
def tw1886144042066472794:=0
def tw1897025099450329940:=0
def tw196536941598035525:=0
def tw1971433849790844608:=0
def tw1974259917200649262:=0
def tw1988063486488863061:=0
def tw2007660962349395123:=0
def tw2009410202504348048:=0
def tw2029088862249889922:=0
def tw2047080938173012442:=0
def tw2057334267981633021:=0
def tw2093333464667377861:=0
def tw2103985501979894447:=0
def tw2104741419117168686:=0
def tw2126296398998916975:=0
def tw2145171640123136144:=0
def tw2165817408578904141:=0
def tw2220570432770164149:=0
def tw2249405535684624136:=0
def tw2267912224990424062:=0
def tw2287362676942042354:=0
def tw2365566498512967660:=0
def tw2405475915293451298:=0
def tw2417791160451022400:=0
def tw2446451932059125521:=0
def tw2462062305354472974:=0
def tw2464713573024523455:=0
def tw2502181453436431679:=0
def tw2506305409684761478:=0
def tw2514443458684651071:=0
def tw2544169868661182894:=0
def tw2555065506035805374:=0
def tw2580922434103091657:=0
def tw2617719716777270872:=0
def tw2630061898475652689:=0
def tw2665807947273092163:=0
def tw2675166985342186458:=0
def tw2683898200743741643:=0
def tw2685012915969955173:=0
def tw2686433634493928565:=0
def tw2707679213066786127:=0
def tw2722852734226103192:=0
def tw2727672472851901052:=0
def tw2731995056826638727:=0
def tw2732273902793177162:=0
def tw2758071753971750899:=0
def tw2770239361232196585:=0
def tw2770563814800254177:=0
def tw2782073688633401757:=0
def tw2809488002615124206:=0
def tw2812155379371279736:=0
def tw283044589724301:=0
def tw2835187731363253809:=0
def tw2847958352784047137:=0
def tw2859833716702649255:=0
def tw2867133514656366558:=0
def tw2878843996050045342:=0
def tw2907113945770861938:=0
def tw2924597203103170677:=0
def tw2926424126403749041:=0
def tw2968346561183084112:=0
def tw2972514686349903234:=0
def tw297971269722091814:=0
def tw2985252069258134486:=0
def tw3002795768020413707:=0
def tw3012798349882047937:=0
def tw3033006917804047512:=0
def tw3087888393795971977:=0
def tw3120133295221510679:=0
def tw3140898538269762758:=0
def tw3143785405151724282:=0
def tw314455870634268127:=0
def tw3186899535449243377:=0
def tw3195522803047326042:=0
def tw3195968871104189447:=0
def tw3207569582813703071:=0
def tw3254097082911018636:=0
def tw3261557481417251176:=0
def tw3297424737477281660:=0
def tw3315250197877816394:=0
def tw3331421620988305804:=0
def tw3337584539547039419:=0
def tw3357215229441099570:=0
def tw3378803678994701225:=0
def tw339143206060000330:=0
def tw3422688185749166683:=0
def tw342308947776675178:=0
def tw3465488137227279516:=0
def tw3474246075231452896:=0
def tw3479634599624807885:=0
def tw3484022092364678248:=0
def tw350670483859837877:=0
def tw352232786441526191:=0
def tw3570499242123996262:=0
def tw3644161924160858147:=0
def tw3664424711883983056:=0
def tw3669314199184481253:=0
def tw3696473221133414273:=0
def tw3704924817259034979:=0
def tw370947364307004932:=0
def tw3712731000106771831:=0
def tw3715792687998586317:=0
def tw372964977893139469:=0
def tw3730354652608582461:=0
def tw3739144386018749749:=0
def tw3767615275625035234:=0
def tw3796891538752321733:=0
def tw3846862658102513837:=0
def tw3855276242980373810:=0
def tw3909029901177050473:=0
def tw390997316461189296:=0
def tw3995942328266245912:=0
def tw4002441696211005659:=0
def tw4010397242664982755:=0
def tw401921906979044612:=0
def tw4046864289407762814:=0
def tw4047667213573674445:=0
def tw4052878762203253943:=0
def tw4076138812419527698:=0
def tw411662067469150650:=0
def tw4158126171336067921:=0
def tw4177254973167742082:=0
def tw4186445540838780016:=0
def tw4205137553216949640:=0
def tw4213018616267185653:=0
def tw4250876409542091131:=0
def tw4250950275838387964:=0
def tw4258143625173308034:=0
def tw427269002284569659:=0
def tw427420600052151026:=0
def tw4292522238394942308:=0
def tw4299629679881509495:=0
def tw4321519831107876412:=0
def tw4331257952254489624:=0
def tw4383139521930768336:=0
def tw4468942710605802240:=0
def tw4498253355057717688:=0
def tw453181688931711583:=0
def tw4547018644641229820:=0
def tw4551080515912023512:=0
def tw4555866861457887817:=0
def tw4571971715460732019:=0
def tw4597200072644226624:=0
def tw4626048006780466326:=0
def tw4655869559712951663:=0
def tw4671429814451907529:=0
def tw4691186174975459493:=0
def tw4695670854781333657:=0
def tw4699463449715708850:=0
def tw47109162367338493:=0
def tw4713442408853163898:=0
def tw4784893810139332661:=0
def tw4791253341166991637:=0
def tw4796303294375832693:=0
def tw4807692442873511580:=0
def tw4828031223510198475:=0
def tw4835499133494076262:=0
def tw4840481374290595910:=0
def tw4856909995586565122:=0
def tw4859757453598101857:=0
def tw4916261283513009128:=0
def tw4940147422707163885:=0
def tw501154541418245514:=0
def tw5027854887016106419:=0
def tw5088376156974544275:=0
def tw5105846836358774362:=0
def tw511221052156847883:=0
def tw5118827330378232414:=0
def tw5155950481276406077:=0
def tw516228168201391017:=0
def tw5176459694589498394:=0
def tw5196900775432865589:=0
def tw5206643200097340550:=0
def tw5225153198818245361:=0
def tw5225916559131626549:=0
def tw5240389563564037448:=0
def tw5240762971458559404:=0
def tw5244899138074338376:=0
def tw5278709424875269971:=0
def tw5303079699428457377:=0
def tw53344730913325255:=0
def tw5341934141677670832:=0
def tw5476889619067714990:=0
def tw5483185372664623402:=0
def tw5523086135645875356:=0
def tw5552270689369575618:=0
def tw5581607755468803823:=0
def tw5590232498371695878:=0
def tw5596365628329696591:=0
def tw5597187220613765494:=0
def tw5609151216138764652:=0
def tw5647976800219259906:=0
def tw5648408011753718230:=0
def tw5667650583090716360:=0
def tw568400683779154973:=0
def tw5692499903750754813:=0
def tw5702910450625016506:=0
def tw5728218623943512802:=0
def tw5766051744304087583:=0
def tw5790966258338625528:=0
def tw5839659824258004927:=0
def tw5853438676954085926:=0
def tw5868845118606482295:=0
def tw5889316905344633881:=0
def tw5915399644114372684:=0
def tw5938664839603501006:=0
def tw594810645892935528:=0
def tw5969682004907312646:=0
def tw5970215366352900667:=0
def tw5977478716191010641:=0
def tw6042063481754889096:=0
def tw6075534854705499898:=0
def tw6127594578889010139:=0
def tw6143595290313323761:=0
def tw6176384092110617959:=0
def tw6180947092584011162:=0
def tw6189502492464219833:=0
def tw6196800358849779857:=0
def tw620129878449983639:=0
def tw6203543418390704334:=0
def tw6211089042160764376:=0
def tw6240723676877644813:=0
def tw6265701101103706036:=0
def tw6286779285267259847:=0
def tw6287420888163001789:=0
def tw6292954644110606532:=0
def tw6370870915552960936:=0
def tw6381231289166406305:=0
def tw6383614241601562808:=0
def tw6430265229019958763:=0
def tw6438537300738474071:=0
def tw6459276657848829223:=0
def tw6460121766331871944:=0
def tw6468107147075657394:=0
def tw6487610083215253720:=0
def tw6491118196486620199:=0
def tw649594095290182367:=0
def tw6503730183909636620:=0
def tw6520327441239513222:=0
def tw657111498738832265:=0
def tw6572447435987645144:=0
def tw6583040956863952856:=0
def tw661290744650703789:=0
def tw6659320528611288953:=0
def tw6662652255960138227:=0
def tw6664487174759623829:=0
def tw6674990990233134667:=0
def tw672699306608606093:=0
def tw6746510453823603384:=0
def tw6749217079512962374:=0
def tw6756851087969907010:=0
def tw6756868429301003459:=0
def tw6761616313442571491:=0
def tw6786057226368545225:=0
def tw6812286434817487243:=0
def tw6859976401760118174:=0
def tw6883741973766446791:=0
def tw6885214360128481674:=0
def tw6893477703608230032:=0
def tw6898770573198911631:=0
def tw6916252892733821390:=0
def tw6919701780365589675:=0
def tw6930518751129746686:=0
def tw6973401727384321114:=0
def tw705360758644809490:=0
def tw7059692629156357883:=0
def tw7079599612431449588:=0
def tw7160873610591055699:=0
def tw7198060816514059695:=0
def tw7204998973626084599:=0
def tw7213333562754528385:=0
def tw7215319984434753242:=0
def tw72247145696351765:=0
def tw7250933059871147345:=0
def tw7260941619817147077:=0
def tw7273676953221729872:=0
def tw728428047077509346:=0
def tw7297446738713254254:=0
def tw7313339093194340965:=0
def tw7325726471975496349:=0
def tw7386116660499605909:=0
def tw7414872774492366064:=0
def tw7429413206186439793:=0
def tw7436774141650363327:=0
def tw7439886461454727182:=0
def tw7444641836354208208:=0
def tw7458633546980236471:=0
def tw7475746777092488413:=0
def tw7538252964068480738:=0
def tw7587601194962177611:=0
def tw7600245330811189008:=0
def tw76412952228603488:=0
def tw7673058066778466091:=0
def tw7715697345341360870:=0
def tw7717162694582976202:=0
def tw7737320934136571279:=0
def tw7744093853086628109:=0
def tw7761843605638006849:=0
def tw7799483888651840948:=0
def tw7817637940432870852:=0
def tw7829887443442302667:=0
def tw7830913209206220567:=0
def tw7845129631348957993:=0
def tw7847352863974893604:=0
def tw7847650389618582240:=0
def tw7855079511596107753:=0
def tw788273225186049534:=0
def tw7913636548009798097:=0
def tw7921354915485686209:=0
def tw795583310449317561:=0
def tw7988277453236245582:=0
def tw7990429038631628895:=0
def tw8025738503920905074:=0
def tw8031535138163002541:=0
def tw8043003576528973991:=0
def tw8054331753737935190:=0
def tw8069049012094873728:=0
def tw8107780213005350392:=0
def tw814325599930780420:=0
def tw8143265674769528471:=0
def tw8148004212497801138:=0
def tw8170299122808406783:=0
def tw81815255157605957:=0
def tw8184561461823581802:=0
def tw8204474986945543665:=0
def tw8237333600419904120:=0
def tw8265191368974092141:=0
def tw8265311939077410998:=0
def tw8281120267493503204:=0
def tw8297286125493194097:=0
def tw8311017846404947139:=0
def tw8327351992414209593:=0
def tw8335412135813284522:=0
def tw83393220934416808:=0
def tw8369368087495890639:=0
def tw8374938949443298174:=0
def tw8393700709775954928:=0
def tw8410488445778877200:=0
def tw84136930442132756:=0
def tw8420165910927482534:=0
def tw8435561252592420358:=0
def tw8455645898260960030:=0
def tw8472579005086612782:=0
def tw8507776931139520737:=0
def tw8523463495250067690:=0
def tw8547604310838440241:=0
def tw8598144960395782539:=0
def tw8620165645458168473:=0
def tw8622502720953521162:=0
def tw8637452081102412489:=0
def tw8640399195822439974:=0
def tw8645369167282567922:=0
def tw864819663365544661:=0
def tw8657480035899644758:=0
def tw8679839319945467846:=0
def tw8689318265317240412:=0
def tw8693662901424576113:=0
def tw8694864300669457046:=0
def tw8729362747519067210:=0
def tw8735323631387419056:=0
def tw877433047237710547:=0
def tw8800459187187324500:=0
def tw8813761850579938390:=0
def tw8817415213059835157:=0
def tw8823455108540655025:=0
def tw8874702517807110003:=0
def tw887695700811335699:=0
def tw8968299171318014206:=0
def tw8973803690348224638:=0
def tw8985709366574770022:=0
def tw8999917154711486175:=0
def tw9016798869158615873:=0
def tw9038659593494541401:=0
def tw9059832203979395877:=0
def tw908825868028484722:=0
def tw9108098604805947806:=0
def tw9121710633936205964:=0
def tw9149571693438533347:=0
def tw9152664641465651067:=0
def tw9165953624949470791:=0
def tw9166809390415177425:=0
def tw9195894827357321740:=0
def tw9227057690007400460:=0
def tw9227541089923242437:=0
def tw9229161468869434483:=0
def tw9233335307524088747:=0
def tw9233715247699887402:=0
def tw9238823003894178615:=0
def tw9259421805112917234:=0
def tw9272544492142499777:=0
def tw93012567124736588:=0
def tw9305691244287143441:=0
def tw9326722878772556681:=0
def tw9332579688445097367:=0
def tw9361663168868926718:=0
def tw9366391650621772374:=0
def tw9382581127745807760:=0
def tw9407396174263392564:=0
def tw9456006794991739263:=0
def tw9503340733035011235:=0
def tw9516688046558066552:=0
def tw953821971998124167:=0
def tw956089473029861405:=0
def tw956942650209027819:=0
def tw9576743257966636567:=0
def tw9601329371697537090:=0
def tw9614876229902214918:=0
def tw9631074621892390191:=0
def tw9666326922614434849:=0
def tw9673933992889287130:=0
def tw9723989250521069032:=0
def tw9739860059890490050:=0
def tw9743097575036673082:=0
def tw9759319705405543751:=0
def tw9768079942903668216:=0
def tw9800703332001039478:=0
def tw9833397302626899308:=0
def tw9843447840031818808:=0
def tw9843949296442739443:=0
def tw984902984118615328:=0
def tw9851269098105209369:=0
def tw9854310039474760501:=0
def tw987869383939708018:=0
def tw9892616901177910922:=0
def tw9903559260747968121:=0
def tw9913501989792142831:=0
def tw9919435345466941130:=0
def tw99440450732166138:=0
def tw9951221954081769418:=0
def tw9953747333497923681:=0
def tw995497684801637723:=0
def tw9961057766049560675:=0
def tw9962302188120564619:=0
def tw9990226795618131978:=0
end top
set_option Elab.async true in
set_option maxHeartbeats 0 in
theorem top : PySem.Challenge.rw_nu0255_01.Holds := by
  w_on
  o_law
  k_head
  case hw => w_witness2
  w_strict (k_fill; intro w s0 s1 mg mb G Y fa o pm cd doc dV kV ho hd' hcd hD hmg hg args vals as hpre hlay hrd hwl hlo; have KX := kIn_of Y
            clear hd' hcd hD ho
            have hmg' : mg (Str.ofString "law") = some (.ref fa) := hmg
            clear hmg
            refine Ground.open G ?_
            intro T B D TE TW
            wrow_args hpre hlay hrd hwl hlo
            rename_i cells h1 h2 h3 h4 h5 a4 a3 a vs as hL ra w1 r0 hI hr hc1 hc2
            have w2 : Well w.params s1.heap (.ref a) (.list (ofPys (cells.map PyData.int))) := w1
            have ha : s1.heap.get? a = some (lstO vs 0) := by
              cases w2 with
              | list hget hall =>
                obtain ⟨o2, e2, c2, n2, d2⟩ := hL
                rw [hget] at e2
                cases e2
                have d3 : Data.seq _ _ = Data.seq _ _ := d2
                injection d3 with d4 d5
                rw [hget, d4]
            refine wpAny_mono (join (fun w => ⟨by kernel_rfl, by kernel_rfl, by kernel_rfl, by kernel_rfl, by kernel_rfl, by kernel_rfl, by kernel_rfl, by kernel_rfl, by kernel_rfl⟩) hg KX hmg' T.g T.b T.nolimit T.builtins ha hI (by omega)) ?_ (fun _ _ h => h)
            rintro v s' ⟨rfl, k1, k2, k3⟩
            exact GoodW.toG ⟨.inl ⟨_, .bool true, [], rfl, fun _ => rfl, .bool true, post_ok _, fun _ => ⟨List.nodup_nil, fun _ m => (nomatch m)⟩⟩, k1, k2, k3⟩)
end
end Mine
theorem PySem.Challenge.cw_nu0255_01_holds : PySem.Challenge.rw_nu0255_01.Holds := by
  exact Mine.top
