import PyProof.Rows.All
import Wide.All
import OpenK.AllK
import Wide.FinOn
import PyProof.Rows.CompDC
import PyProof.Rows.RowHeap
import PyProof.Rows.IntRules
import PyProof.PureInt
import PyProof.PureStr
import PyProof.WalksMore
import PyProof.Rows.RuleB_floordiv
import PyProof.Rows.RuleB_mod
import PyProof.Rows.RuleB_mul
import PyProof.Rows.Nodes
import PyProof.Rows.Exc
import PyProof.StrBlock
import PyProof.IsRules
import PyProof.NeData
import PyProof.Rows.TupSub
import PyProof.Rows.StrSub
import PyProof.Rows.SeqSlice
import PyProof.SliceList
import PyProof.StrBlockL
import PyProof.Rows.StrTemp
import OpenK.KLine
import PyProof.ForRange
import PyProof.DictWalks
import PyProof.CompFree
import PyProof.StrCalls
import PyProof.StrCalls2
import PyProof.Rows.StrJoin2
import PyProof.StrLawsFirst
import PyProof.StrLawsIn
import PyProof.IsiPairs
import PyProof.IsiHeapPairs
import PyProof.CallStr
import PyProof.Conv_int_bool
import KE.KIntText
import PyProof.P3Eq
import PyProof.ListCopy
import PyProof.WalkInts
import PyProof.StrLawsChain
import PyProof.StrLawsTight
import PyProof.Rows.StrFacts2
import PyProof.CallRoads3
import PyProof.MeetsStr2
import PyProof.StrOps2
import PyProof.ForAppend
import PyProof.Rows.ListMulArg
import PyProof.StrLawsReplace
import PyProof.StrCalls6
import KE.KListMore
import PyProof.Rows.RuleU_int
import PyProof.AutoSeq1
import PyProof.ConsumeWalk
import PyProof.StationsW
import PyProof.PassesOwn
import PyProof.RulesTry
import PyProof.RulesAs
import PyProof.ExcClass3
import PyProof.Rows.Own
import PyProof.ExcBaseAll.ValueError
import OpenK.KOwn
import PyProof.Logic
import KE.KTryMore
import OpenK.KMore
import PySem.Challenge.RW_uf060013_01
set_option Elab.async false
set_option linter.all false
set_option maxRecDepth 100000
set_option maxHeartbeats 8000000
section
open PySem PySem.Calls PyProof.Rows
set_option linter.all false
namespace Mine
variable {N : Nat}

inductive Fl where
  | c | b | o

def KpH (N : Nat) (h h' : Heap) : Prop := ∀ b o, h.get? b = some o → ∃ sl, h'.get? b = some { o with slots := sl } ∧ ((o.cls ≠ .type "frame" ∨ b < N ∨ ∃ vs, o.data = .fields vs) → sl = o.slots)
theorem KpH.of {h h' : Heap} (hk : ∀ b o, h.get? b = some o → h'.get? b = some o) : KpH N h h' := fun b o e => ⟨o.slots, hk b o e, fun _ => rfl⟩
theorem KpH.refl (h : Heap) : KpH N h h := .of fun _ _ e => e
theorem KpH.trans {h₁ h₂ h₃ : Heap} (x : KpH N h₁ h₂) (y : KpH N h₂ h₃) : KpH N h₁ h₃ := fun b o e => by
  obtain ⟨sl, e1, f1⟩ := x b o e
  obtain ⟨sl', e2, f2⟩ := y b _ e1
  exact ⟨sl', e2, fun hc => (f2 hc).trans (f1 hc)⟩
theorem KpH.get {h h' : Heap} (x : KpH N h h') {b : Addr} {o : Obj} (e : h.get? b = some o) (hc : o.cls ≠ .type "frame") : h'.get? b = some o := by
  obtain ⟨sl, e1, f1⟩ := x b o e
  rw [e1, f1 (.inl hc)]
theorem KpH.none {h h' : Heap} (x : KpH N h h') {b : Addr} (e : h'.get? b = none) : h.get? b = none := by
  cases q : h.get? b with
  | none => rfl
  | some o => obtain ⟨sl, e1, _⟩ := x b o q; rw [e] at e1; cases e1
theorem KpH.push {h h' : Heap} (x : KpH N h h') (o : Obj) : KpH N h (h'.push o) := x.trans (.of fun _ _ e => Heap.get?_push_of_some o e)
theorem KpH.ns {h h' : Heap} (x : KpH N h h') {a : Addr} {m : Str → Option Value} (hn : h.Ns a m) : h'.Ns a m := by
  obtain ⟨o, es, ep, e, r⟩ := hn
  obtain ⟨sl, e1, _⟩ := x a o e
  exact ⟨_, es, ep, e1, r⟩
theorem KpH.cell {h h' : Heap} (x : KpH N h h') {c : Addr} {v : Option Value} (hn : h.IsCell c v) : h'.IsCell c v := by
  obtain ⟨o, e, r⟩ := hn
  obtain ⟨sl, e1, _⟩ := x c o e
  exact ⟨_, e1, r⟩
theorem KpH.list {h h' : Heap} (x : KpH N h h') {a : Addr} {vs : Array Value} (hl : h.IsList a vs) : h'.IsList a vs := by
  obtain ⟨o, e, r⟩ := hl
  obtain ⟨sl, e1, _⟩ := x a o e
  exact ⟨_, e1, r⟩
theorem KpH.noLimit {h h' : Heap} (x : KpH N h h') (hl : h.NoLimit) : h'.NoLimit := let ⟨mc, a, b⟩ := hl; ⟨mc, x.ns a, b⟩
mutual
theorem reads_kp {h h' : Heap} (hk : KpH N h h') : ∀ {v : Value} {d : PyData} {as : List Addr}, Reads h v d as → Reads h' v d as
  | _, _, _, .none => .none
  | _, _, _, .bool b => .bool b
  | _, _, _, .int i t => .int i t
  | _, _, _, .str x t => .str x t
  | _, _, _, .list ho hc hd ha => by obtain ⟨sl, e, _⟩ := hk _ _ ho; exact .list e hc hd (readsAll_kp hk ha)
  | _, _, _, .tuple ho hc hd ha => by obtain ⟨sl, e, _⟩ := hk _ _ ho; exact .tuple e hc hd (readsAll_kp hk ha)
  | _, _, _, .dict ho hc hd ha hb => by obtain ⟨sl, e, _⟩ := hk _ _ ho; exact .dict e hc hd (readsAll_kp hk ha) (readsAll_kp hk hb)
theorem readsAll_kp {h h' : Heap} (hk : KpH N h h') : ∀ {vs : List Value} {ds : List PyData} {as : List Addr}, ReadsAll h vs ds as → ReadsAll h' vs ds as
  | _, _, _, .nil => .nil
  | _, _, _, .cons h1 h2 => .cons (reads_kp hk h1) (readsAll_kp hk h2)
end

inductive Vl where
  | d (x : PyData)
  | i (C : Addr) (fs : List (Str × PyData))

def Dok (w : World) (h : Heap) (as : List Addr) : Prop :=
  ∀ a ∈ as, ∃ o, h.get? a = some o ∧ ∀ es n, o.data = .dict es n → ∀ e ∈ es.toList, ∃ x t, e.key = .str x t ∧ e.hash = PyData.keyHash w.params x

def Rep (w : World) (R : Addr → Prop) (h : Heap) (v : Value) (d : PyData) : Prop := ∃ as, Reads h v d as ∧ (∀ a ∈ as, R a) ∧ Dok w h as

def FieldsRep (w : World) (R : Addr → Prop) (h : Heap) : List DictEntry → List (Str × PyData) → Prop
  | [], [] => True
  | e :: es, (x, d) :: fs => (∃ t, e.key = .str x t) ∧ e.hash = PyData.keyHash w.params x ∧ Rep w R h e.val d ∧ FieldsRep w R h es fs
  | _, _ => False

def InstRep (w : World) (R : Addr → Prop) (h : Heap) (v : Value) (C : Addr) (fs : List (Str × PyData)) : Prop :=
  ∃ x dx es n, v = .ref x ∧ R x ∧ R dx ∧ h.get? x = some { cls := .ref C, dict := some dx } ∧
    h.get? dx = some { cls := .type "dict", data := .dict (List.toArray es) n } ∧ FieldsRep w R h es fs

def RepV (w : World) (R : Addr → Prop) (h : Heap) (v : Value) : Vl → Prop
  | .d d => Rep w R h v d
  | .i C fs => InstRep w R h v C fs

section
variable {w : World} {R R' : Addr → Prop} {h h' : Heap} {v : Value}

theorem Dok.keeps {as : List Addr} (x : Dok w h as) (hk : KpH N h h') : Dok w h' as :=
  fun a ha => let ⟨o, ho, r⟩ := x a ha; let ⟨_, e, _⟩ := hk a o ho; ⟨_, e, r⟩
theorem Dok.append {as bs : List Addr} (x : Dok w h as) (y : Dok w h bs) : Dok w h (as ++ bs) :=
  fun a ha => (List.mem_append.mp ha).elim (x a) (y a)
theorem Dok.nil : Dok w h [] := fun _ ha => (nomatch ha)
theorem Rep.keeps {d : PyData} (x : Rep w R h v d) (hk : KpH N h h') : Rep w R h' v d :=
  let ⟨as, r, hr, hd⟩ := x; ⟨as, reads_kp hk r, hr, hd.keeps hk⟩
theorem Rep.mono {d : PyData} (x : Rep w R h v d) (hR : ∀ a, R a → R' a) : Rep w R' h v d :=
  let ⟨as, r, hr, hd⟩ := x; ⟨as, r, fun a ha => hR a (hr a ha), hd⟩
theorem FieldsRep.keeps (hk : KpH N h h') : ∀ {es : List DictEntry} {fs : List (Str × PyData)}, FieldsRep w R h es fs → FieldsRep w R h' es fs
  | [], [], _ => trivial
  | _ :: _, (_, _) :: _, ⟨a, b, c, r⟩ => ⟨a, b, c.keeps hk, FieldsRep.keeps hk r⟩
theorem FieldsRep.mono (hR : ∀ a, R a → R' a) : ∀ {es : List DictEntry} {fs : List (Str × PyData)}, FieldsRep w R h es fs → FieldsRep w R' h es fs
  | [], [], _ => trivial
  | _ :: _, (_, _) :: _, ⟨a, b, c, r⟩ => ⟨a, b, c.mono hR, FieldsRep.mono hR r⟩
theorem RepV.keeps {x : Vl} (r : RepV w R h v x) (hk : KpH N h h') : RepV w R h' v x := by
  cases x with
  | d x => exact Rep.keeps r hk
  | i C fs =>
    obtain ⟨x, dx, es, n, a1, a2, a3, a4, a5, a6⟩ := r
    exact ⟨x, dx, es, n, a1, a2, a3, hk.get a4 (by simp), hk.get a5 (by simp), a6.keeps hk⟩
theorem RepV.mono {x : Vl} (r : RepV w R h v x) (hR : ∀ a, R a → R' a) : RepV w R' h v x := by
  cases x with
  | d x => exact Rep.mono r hR
  | i C fs =>
    obtain ⟨x, dx, es, n, a1, a2, a3, a4, a5, a6⟩ := r
    exact ⟨x, dx, es, n, a1, hR _ a2, hR _ a3, a4, a5, a6.mono hR⟩
theorem rep_none : Rep w R h .none .none := ⟨[], .none, fun _ ha => (nomatch ha), .nil⟩
theorem rep_bool (b : Bool) : Rep w R h (.bool b) (.bool b) := ⟨[], .bool b, fun _ ha => (nomatch ha), .nil⟩
theorem rep_int (i : Int) (t : Tok) : Rep w R h (.int i t) (.int i) := ⟨[], .int i t, fun _ ha => (nomatch ha), .nil⟩
theorem rep_str (x : Str) (t : Tok) : Rep w R h (.str x t) (.str x) := ⟨[], .str x t, fun _ ha => (nomatch ha), .nil⟩
theorem Rep.int_inv {i : Int} (x : Rep w R h v (.int i)) : ∃ t, v = .int i t := by
  obtain ⟨as, r, _⟩ := x; cases r; exact ⟨_, rfl⟩
theorem Rep.bool_inv {b : Bool} (x : Rep w R h v (.bool b)) : v = .bool b := by
  obtain ⟨as, r, _⟩ := x; cases r; rfl
theorem Rep.none_inv (x : Rep w R h v .none) : v = .none := by
  obtain ⟨as, r, _⟩ := x; cases r; rfl
theorem Rep.str_inv {y : Str} (x : Rep w R h v (.str y)) : ∃ t, v = .str y t := by
  obtain ⟨as, r, _⟩ := x; cases r; exact ⟨_, rfl⟩
end

def RepAll (w : World) (R : Addr → Prop) (h : Heap) (vs : List Value) (ds : List PyData) : Prop := ∃ as, ReadsAll h vs ds as ∧ (∀ a ∈ as, R a) ∧ Dok w h as
section
variable {w : World} {R R' : Addr → Prop} {h h' : Heap} {v : Value} {vs ws : List Value} {ds es : List PyData} {d : PyData}
theorem RepAll.nil : RepAll w R h [] [] := ⟨[], .nil, fun _ ha => (nomatch ha), .nil⟩
theorem RepAll.cons (x : Rep w R h v d) (y : RepAll w R h vs ds) : RepAll w R h (v :: vs) (d :: ds) := by
  obtain ⟨as, r, hr, hd⟩ := x
  obtain ⟨bs, q, hq, he⟩ := y
  exact ⟨as ++ bs, .cons r q, fun a ha => (List.mem_append.mp ha).elim (hr a) (hq a), hd.append he⟩
theorem RepAll.cons_inv (x : RepAll w R h (v :: vs) (d :: ds)) : Rep w R h v d ∧ RepAll w R h vs ds := by
  obtain ⟨as, r, hr, hd⟩ := x
  cases r with
  | cons r1 r2 => exact ⟨⟨_, r1, fun a ha => hr a (List.mem_append_left _ ha), fun a ha => hd a (List.mem_append_left _ ha)⟩, ⟨_, r2, fun a ha => hr a (List.mem_append_right _ ha), fun a ha => hd a (List.mem_append_right _ ha)⟩⟩
theorem RepAll.length : ∀ {vs : List Value} {ds : List PyData}, RepAll w R h vs ds → vs.length = ds.length
  | [], [], _ => rfl
  | [], _ :: _, ⟨_, r, _⟩ => nomatch r
  | _ :: _, [], ⟨_, r, _⟩ => nomatch r
  | _ :: _, _ :: _, x => by simp [x.cons_inv.2.length]
theorem RepAll.keeps (x : RepAll w R h vs ds) (hk : KpH N h h') : RepAll w R h' vs ds :=
  let ⟨as, r, hr, hd⟩ := x; ⟨as, readsAll_kp hk r, hr, hd.keeps hk⟩
theorem RepAll.mono (x : RepAll w R h vs ds) (hR : ∀ a, R a → R' a) : RepAll w R' h vs ds :=
  let ⟨as, r, hr, hd⟩ := x; ⟨as, r, fun a ha => hR a (hr a ha), hd⟩
theorem RepAll.append : ∀ {vs : List Value} {ds : List PyData}, RepAll w R h vs ds → RepAll w R h ws es → RepAll w R h (vs ++ ws) (ds ++ es)
  | [], [], _, y => y
  | [], _ :: _, ⟨_, r, _⟩, _ => nomatch r
  | _ :: _, [], ⟨_, r, _⟩, _ => nomatch r
  | _ :: _, _ :: _, x, y => .cons x.cons_inv.1 (x.cons_inv.2.append y)
theorem RepAll.get : ∀ {vs : List Value} {ds : List PyData} (i : Nat), RepAll w R h vs ds → ∀ d, ds[i]? = some d → ∃ v, vs[i]? = some v ∧ Rep w R h v d
  | [], [], _, _, _, e => by simp at e
  | [], _ :: _, _, ⟨_, r, _⟩, _, _ => nomatch r
  | _ :: _, [], _, ⟨_, r, _⟩, _, _ => nomatch r
  | v :: _, _ :: _, 0, x, _, e => by simp at e; subst e; exact ⟨v, rfl, x.cons_inv.1⟩
  | _ :: _, _ :: _, i + 1, x, d, e => by simpa using x.cons_inv.2.get i d (by simpa using e)
theorem RepAll.drop : ∀ (k : Nat) {vs : List Value} {ds : List PyData}, RepAll w R h vs ds → RepAll w R h (vs.drop k) (ds.drop k)
  | 0, _, _, x => x
  | _ + 1, [], [], x => x
  | _ + 1, [], _ :: _, ⟨_, r, _⟩ => nomatch r
  | _ + 1, _ :: _, [], ⟨_, r, _⟩ => nomatch r
  | k + 1, _ :: _, _ :: _, x => x.cons_inv.2.drop k
theorem RepAll.take : ∀ (k : Nat) {vs : List Value} {ds : List PyData}, RepAll w R h vs ds → RepAll w R h (vs.take k) (ds.take k)
  | 0, _, _, _ => by simpa using RepAll.nil
  | _ + 1, [], [], x => x
  | _ + 1, [], _ :: _, ⟨_, r, _⟩ => nomatch r
  | _ + 1, _ :: _, [], ⟨_, r, _⟩ => nomatch r
  | k + 1, _ :: _, _ :: _, x => .cons x.cons_inv.1 (x.cons_inv.2.take k)
theorem Rep.list_inv {xs : List PyData} (x : Rep w R h v (.list xs)) : ∃ a vs, v = .ref a ∧ R a ∧ h.IsList a (List.toArray vs) ∧ RepAll w R h vs xs := by
  obtain ⟨as, r, hr, hd⟩ := x
  cases r with
  | @list a o vs n _ as ho hc hdat hall =>
    exact ⟨a, vs.toList, rfl, hr a (.head _), ⟨o, ho, hc, n, by simpa using hdat⟩, ⟨as, hall, fun b hb => hr b (.tail _ hb), fun b hb => hd b (.tail _ hb)⟩⟩
end

mutual
def still : PyData → Bool
  | .none | .bool _ | .int _ | .str _ => true
  | .tuple xs => stillAll xs
  | .list _ | .dict _ => false
def stillAll : List PyData → Bool
  | [] => true
  | x :: xs => still x && stillAll xs
end
mutual
theorem still_reads {h : Heap} {v : Value} : ∀ {d : PyData} {as : List Addr}, still d = true → Reads h v d as → as = []
  | .none, _, _, .none => rfl
  | .bool _, _, _, .bool _ => rfl
  | .int _, _, _, .int _ _ => rfl
  | .str _, _, _, .str _ _ => rfl
  | .tuple _, _, hs, .tuple _ _ _ ha => still_readsAll (by simpa [still] using hs) ha
  | .list _, _, hs, _ => by simp [still] at hs
  | .dict _, _, hs, _ => by simp [still] at hs
theorem still_readsAll {h : Heap} : ∀ {ds : List PyData} {vs : List Value} {as : List Addr}, stillAll ds = true → ReadsAll h vs ds as → as = []
  | [], _, _, _, .nil => rfl
  | _ :: _, _, _, hs, .cons h1 h2 => by
    simp [stillAll] at hs
    rw [still_reads hs.1 h1, still_readsAll hs.2 h2]; rfl
end
theorem Rep.still {w : World} {R R' : Addr → Prop} {h : Heap} {v : Value} {d : PyData} (x : Rep w R h v d) (hs : still d = true) : Rep w R' h v d := by
  obtain ⟨as, r, _, hd⟩ := x
  have := still_reads hs r
  subst this
  exact ⟨[], r, fun _ ha => (nomatch ha), hd⟩
theorem RepAll.still {w : World} {R R' : Addr → Prop} {h : Heap} {vs : List Value} {ds : List PyData} (x : RepAll w R h vs ds) (hs : stillAll ds = true) : RepAll w R' h vs ds := by
  obtain ⟨as, r, _, hd⟩ := x
  have := still_readsAll hs r
  subst this
  exact ⟨[], r, fun _ ha => (nomatch ha), hd⟩

end Mine
end
section
open PySem PySem.Calls PyProof.Rows
set_option linter.all false
namespace Mine
variable {N : Nat}

structure St where
  prog : Program
  w : World
  mg : Str → Option Value
  mb : Str → Option Value
  K : List (Addr × Obj)
  N : Nat
abbrev St.M (T : St) : Model := model T.prog T.w

structure Wd (T : St) (h : Heap) : Prop where
  g : h.Ns mainGlobals T.mg
  b : h.Ns builtinsNs T.mb
  lim : h.NoLimit
  k : ∀ a o, T.K.lookup a = some o → h.get? a = some o
  kn : ∀ a o, T.K.lookup a = some o → a < T.N
theorem Wd.kp {T : St} {h h' : Heap} (x : Wd T h) (hk : KpH T.N h h') : Wd T h' := ⟨hk.ns x.g, hk.ns x.b, hk.noLimit x.lim, fun a o e => by
  obtain ⟨sl, e1, f1⟩ := hk a o (x.k a o e)
  rw [e1, f1 (.inr (.inl (x.kn a o e)))], x.kn⟩

def Kp (N : Nat) (s s' : Shared) : Prop := ∃ h' tk, s' = { s with heap := h', toks := tk } ∧ KpH N s.heap h'
theorem Kp.refl (s : Shared) : Kp N s s := ⟨s.heap, s.toks, rfl, .refl _⟩
theorem Kp.h {s s' : Shared} (x : Kp N s s') : KpH N s.heap s'.heap := by obtain ⟨h', tk, rfl, hk⟩ := x; exact hk
theorem Kp.trans {s₁ s₂ s₃ : Shared} (x : Kp N s₁ s₂) (y : Kp N s₂ s₃) : Kp N s₁ s₃ := by
  obtain ⟨h', tk, rfl, hk⟩ := x
  obtain ⟨h'', tk', rfl, hk'⟩ := y
  exact ⟨h'', tk', rfl, hk.trans hk'⟩
theorem Kp.tok (s : Shared) (t : Nat) : Kp N s { s with toks := t } := ⟨s.heap, t, rfl, .refl _⟩
theorem Kp.push (s : Shared) (o : Obj) : Kp N s { s with heap := s.heap.push o } := ⟨_, s.toks, rfl, (KpH.refl _).push o⟩
theorem Kp.mk {s : Shared} {h' : Heap} {tk : Nat} (hk : KpH N s.heap h') : Kp N s { s with heap := h', toks := tk } := ⟨h', tk, rfl, hk⟩

structure Amb (n : Nat) (A : Around) : Prop where
  handled : A.handled = none
  depth : A.depth + n < recursionLimit
  units : A.units + 10 * n + 100 < cLine
theorem Amb.le {n m : Nat} {A : Around} (x : Amb n A) (h : m ≤ n) : Amb m A := ⟨x.handled, by have := x.depth; omega, by have := x.units; omega⟩
theorem Amb.deeper {n : Nat} {A : Around} (x : Amb (n + 1) A) (env : Env) : Amb n (A.deeper env) :=
  ⟨x.handled, by have := x.depth; show A.depth + 1 + n < _; omega, by have := x.units; simp only [Around.deeper_units]; omega⟩

abbrev Slot := Option (Vl × Fl)
abbrev Gm := List (Str × Slot)
structure GmOk (ns : List Str) : Prop where
  nodup : ns.Nodup
  nodebug : ∀ x ∈ ns, (x == ("__debug__" : Str)) = false

structure EnvOk (env : Env) : Prop where
  kind : env.scope.kind = .function
  g : env.globals = mainGlobals
  b : env.builtins = builtinsNs
  cells : ∀ x, env.kindOf x = some .cell → ∃ c, env.cells.lookup x = some c

def NameIs (env : Env) (h : Heap) (x : Str) (v : Value) : Prop :=
  (env.kindOf x = some .local ∧ ∃ m, h.Ns env.locals m ∧ m x = some v) ∨ (env.kindOf x = some .cell ∧ ∃ c, env.cells.lookup x = some c ∧ h.IsCell c (some v))
theorem NameIs.kp {env : Env} {h h' : Heap} {x : Str} {v : Value} (r : NameIs env h x v) (hk : KpH N h h') : NameIs env h' x v := by
  rcases r with ⟨k, m, hn, hv⟩ | ⟨k, c, hc, hv⟩
  · exact .inl ⟨k, m, hk.ns hn, hv⟩
  · exact .inr ⟨k, c, hc, hk.cell hv⟩

structure Regs (reg : Fl → Addr → Prop) (h : Heap) : Prop where
  fresh : ∀ fl a, h.get? a = none → reg fl a
  cb : ∀ a, reg .c a → reg .b a
  bo : ∀ a, reg .b a → reg .o a
theorem Regs.kp {reg : Fl → Addr → Prop} {h h' : Heap} (x : Regs reg h) (hk : KpH N h h') : Regs reg h' := ⟨fun fl a e => x.fresh fl a (hk.none e), x.cb, x.bo⟩
structure Rd (T : St) (env : Env) (reg : Fl → Addr → Prop) (Γ : Gm) (s : Shared) : Prop where
  eok : EnvOk env
  ok : GmOk (Γ.map (·.1))
  names : ∀ x v fl, (x, some (v, fl)) ∈ Γ → ∃ val, NameIs env s.heap x val ∧ RepV T.w (reg fl) s.heap val v
  regs : Regs reg s.heap
  wd : Wd T s.heap
theorem Rd.kp {T : St} {env : Env} {reg : Fl → Addr → Prop} {Γ : Gm} {s s' : Shared} (x : Rd T env reg Γ s) (hk : Kp T.N s s') : Rd T env reg Γ s' :=
  ⟨x.eok, x.ok, fun n v fl hm => let ⟨val, a, b⟩ := x.names n v fl hm; ⟨val, a.kp hk.h, b.keeps hk.h⟩, x.regs.kp hk.h, x.wd.kp hk.h⟩

def FreshTop (h h' : Heap) (v : Value) (d : PyData) (as : List Addr) : Prop := match d with
  | .list _ | .dict _ => ∃ a as', v = .ref a ∧ as = a :: as' ∧ h.get? a = none ∧ a ∉ as' ∧ ∃ o, h'.get? a = some o ∧ o.dict = none
  | _ => True
def RepF (w : World) (R : Addr → Prop) (h h' : Heap) (v : Value) (d : PyData) : Prop := ∃ as, Reads h' v d as ∧ (∀ a ∈ as, R a) ∧ Dok w h' as ∧ FreshTop h h' v d as
theorem RepF.rep {w : World} {R : Addr → Prop} {h h' : Heap} {v : Value} {d : PyData} (x : RepF w R h h' v d) : Rep w R h' v d := let ⟨as, a, b, c, _⟩ := x; ⟨as, a, b, c⟩
theorem FreshTop.older {h h₀ h' : Heap} {v : Value} {d : PyData} {as : List Addr} (x : FreshTop h h' v d as) (hk : KpH N h₀ h) : FreshTop h₀ h' v d as := by
  cases d <;> first | trivial | (obtain ⟨a, as', e1, e2, e3, e4, e5⟩ := x; exact ⟨a, as', e1, e2, hk.none e3, e4, e5⟩)
theorem RepF.older {w : World} {R : Addr → Prop} {h₀ h h' : Heap} {v : Value} {d : PyData} (x : RepF w R h h' v d) (hk : KpH N h₀ h) : RepF w R h₀ h' v d :=
  let ⟨as, a, b, c, f⟩ := x; ⟨as, a, b, c, f.older hk⟩
theorem RepF.mono {w : World} {R R' : Addr → Prop} {h h' : Heap} {v : Value} {d : PyData} (x : RepF w R h h' v d) (hR : ∀ a, R a → R' a) : RepF w R' h h' v d :=
  let ⟨as, a, b, c, f⟩ := x; ⟨as, a, fun y hy => hR y (b y hy), c, f⟩
theorem RepF.of_still {w : World} {R : Addr → Prop} {h h' : Heap} {v : Value} {d : PyData} (x : Rep w R h' v d) (hs : still d = true) : RepF w R h h' v d := by
  obtain ⟨as, a, b, c⟩ := x
  refine ⟨as, a, b, c, ?_⟩
  cases d <;> first | trivial | simp [still] at hs
section
variable {w : World} {R : Addr → Prop} {h h' : Heap}
theorem repF_none : RepF w R h h' .none .none := .of_still rep_none rfl
theorem repF_bool (b : Bool) : RepF w R h h' (.bool b) (.bool b) := .of_still (rep_bool b) rfl
theorem repF_int (i : Int) (t : Tok) : RepF w R h h' (.int i t) (.int i) := .of_still (rep_int i t) rfl
theorem repF_str (x : Str) (t : Tok) : RepF w R h h' (.str x t) (.str x) := .of_still (rep_str x t) rfl
theorem repF_list {a : Addr} {vs : List Value} {xs : List PyData} {n : Nat} {o : Obj} (hR : ∀ b, h.get? b = none → R b) (hn : h.get? a = none) (ho : h'.get? a = some o) (hc : o.cls = .type "list") (hdat : o.data = .seq (List.toArray vs) n) (hdi : o.dict = none)
    (x : RepAll w R h vs xs) (hk : KpH N h h') : RepF w R h h' (.ref a) (.list xs) := by
  obtain ⟨as, r, hr, hd⟩ := x
  refine ⟨a :: as, .list ho hc hdat (by simpa using readsAll_kp hk r), fun b hb => (List.mem_cons.mp hb).elim (fun e => e ▸ hR a hn) (hr b), fun b hb => (List.mem_cons.mp hb).elim (fun e => ⟨o, e ▸ ho, fun es n' q => ?_⟩) ((hd.keeps hk) b), a, as, rfl, rfl, hn, fun ha => ?_, o, ho, hdi⟩
  · rw [hdat] at q; cases q
  · obtain ⟨o', e, _⟩ := hd a ha
    rw [hn] at e; cases e
theorem repF_listP {s : Shared} {vs : List Value} {xs : List PyData} {n : Nat} (hR : ∀ b, s.heap.get? b = none → R b) (x : RepAll w R s.heap vs xs) :
    RepF w R s.heap (s.heap.push { cls := .type "list", data := .seq (List.toArray vs) n }) (.ref s.heap.objs.size) (.list xs) :=
  repF_list (N := 0) hR (Heap.get?_none_of_le (Nat.le_refl _)) (Heap.get?_push_size _ rfl) rfl rfl rfl x ((KpH.refl _).push _)
end

structure Ev (T : St) (n : Nat) (env : Env) (Γ : Gm) (e : PySem.Expr) (v : Vl) (fl : Fl) : Prop where
  run : ∀ {A : Around} {reg : Fl → Addr → Prop} {s : Shared} {E : Value → Shared → Prop} {Q : Value → Shared → Prop}, Amb n A → Rd T env reg Γ s →
    (∀ val s', Kp T.N s s' → RepV T.w (reg fl) s'.heap val v → Q val s') → wpAny T.M A (eval e env) Q E s
structure EvF (T : St) (n : Nat) (env : Env) (Γ : Gm) (e : PySem.Expr) (d : PyData) : Prop where
  run : ∀ {A : Around} {reg : Fl → Addr → Prop} {s : Shared} {E : Value → Shared → Prop} {Q : Value → Shared → Prop}, Amb n A → Rd T env reg Γ s →
    (∀ val s', Kp T.N s s' → RepF T.w (reg .c) s.heap s'.heap val d → Q val s') → wpAny T.M A (eval e env) Q E s
structure IsT (T : St) (n : Nat) (env : Env) (Γ : Gm) (e : PySem.Expr) (b : Bool) : Prop where
  run : ∀ {A : Around} {reg : Fl → Addr → Prop} {s : Shared} {E : Value → Shared → Prop} {Q : Bool → Shared → Prop}, Amb n A → Rd T env reg Γ s →
    (∀ s', Kp T.N s s' → Q b s') → wpAny T.M A (isTrue e env (eval e env)) Q E s

section
variable {T : St} {n : Nat} {env : Env} {Γ : Gm}

theorem Ev.ofF {e : PySem.Expr} {d : PyData} (x : EvF T n env Γ e d) : Ev T n env Γ e (.d d) .c := ⟨fun hA R h => x.run hA R fun val s' k r => h val s' k r.rep⟩
theorem Ev.still {e : PySem.Expr} {d : PyData} {fl : Fl} (x : Ev T n env Γ e (.d d) fl) (hs : still d = true) : EvF T n env Γ e d :=
  ⟨fun hA R h => x.run hA R fun val s' k r => h val s' k (.of_still (Rep.still r hs) hs)⟩

theorem Ev.name {x : Str} {pos : Pos} {v : Vl} {fl : Fl} (hm : (x, some (v, fl)) ∈ Γ) : Ev T n env Γ (.Name x pos) v fl := ⟨fun hA R h => by
  obtain ⟨val, hv, hr⟩ := R.names x v fl hm
  have hd := R.ok.nodebug x (List.mem_map.mpr ⟨_, hm, rfl⟩)
  rcases hv with ⟨k, m, hn, hv⟩ | ⟨k, c, hc, hv⟩
  · exact wpAny_Name (wpAny_loadName_local R.eok.kind k hn hv (h val _ (.refl _) hr)) hd
  · exact wpAny_Name (wpAny_loadName_cell R.eok.kind k hc hv (h val _ (.refl _) hr)) hd⟩
theorem EvF.glob {x : Str} {pos : Pos} {y : Str} {t : Tok} (hx : env.kindOf x = some .globalImplicit) (hg : T.mg x = some (.str y t)) (hd : (x == ("__debug__" : Str)) = false) : EvF T n env Γ (.Name x pos) (.str y) := ⟨fun hA R h =>
  Name_function_global R.eok.kind hx (loadGlobal_global (by rw [R.eok.g]; exact R.wd.g) hg (h _ _ (.refl _) (repF_str ..))) hd⟩

theorem EvF.kNone {k : Nat} {pos : Pos} : EvF T n env Γ (.Constant .none k pos) .none := ⟨fun _ _ h => wpAny_pure (h _ _ (.refl _) repF_none)⟩
theorem EvF.kInt {i : Int} {k : Nat} {pos : Pos} : EvF T n env Γ (.Constant (.int i) k pos) (.int i) := ⟨fun _ _ h => wpAny_mkInt (h _ _ (.tok _ _) (repF_int ..))⟩
theorem EvF.kStr {x : Str} {k : Nat} {pos : Pos} : EvF T n env Γ (.Constant (.str x) k pos) (.str x) := ⟨fun _ _ h => wpAny_mkText (h _ _ (.tok _ _) (repF_str ..))⟩

structure Bin (T : St) (n : Nat) (op : Operator) (v₁ : Vl) (f₁ : Fl) (v₂ : Vl) (f₂ : Fl) (d : PyData) : Prop where
  run : ∀ {A : Around} {reg : Fl → Addr → Prop} {s : Shared} {E : Value → Shared → Prop} {Q : Value → Shared → Prop} {a b : Value}, Amb n A → Regs reg s.heap → Wd T s.heap → RepV T.w (reg f₁) s.heap a v₁ → RepV T.w (reg f₂) s.heap b v₂ →
    (∀ val s', Kp T.N s s' → RepF T.w (reg .c) s.heap s'.heap val d → Q val s') → wpAny T.M A (binaryOp op a b) Q E s
theorem EvF.bin {l r : PySem.Expr} {op : Operator} {pos : Pos} {v₁ v₂ : Vl} {f₁ f₂ : Fl} {d : PyData} (h₁ : Ev T n env Γ l v₁ f₁) (h₂ : Ev T n env Γ r v₂ f₂) (hb : Bin T n op v₁ f₁ v₂ f₂ d) : EvF T n env Γ (.BinOp l op r pos) d := ⟨fun hA R h =>
  wpAny_BinOp (h₁.run hA R fun a s₁ k₁ r₁ => h₂.run hA (R.kp k₁) fun b s₂ k₂ r₂ => hb.run hA ((R.regs.kp k₁.h).kp k₂.h) ((R.wd.kp k₁.h).kp k₂.h) (r₁.keeps k₂.h) r₂ fun val s₃ k₃ r₃ =>
    h val s₃ ((k₁.trans k₂).trans k₃) (r₃.older (k₁.trans k₂).h))⟩

section
variable {f₁ f₂ : Fl}
theorem Bin.addI {a b : Int} : Bin T n .Add (.d (.int a)) f₁ (.d (.int b)) f₂ (.int (a + b)) := ⟨fun _ _ _ r₁ r₂ h => by
  obtain ⟨t, rfl⟩ := Rep.int_inv r₁; obtain ⟨u, rfl⟩ := Rep.int_inv r₂
  exact PyProof.Rows.add_int (h _ _ (.tok _ _) (repF_int ..))⟩
theorem Bin.subI {a b : Int} : Bin T n .Sub (.d (.int a)) f₁ (.d (.int b)) f₂ (.int (a - b)) := ⟨fun _ _ _ r₁ r₂ h => by
  obtain ⟨t, rfl⟩ := Rep.int_inv r₁; obtain ⟨u, rfl⟩ := Rep.int_inv r₂
  exact PyProof.Rows.sub_int (h _ _ (.tok _ _) (repF_int ..))⟩
theorem Bin.mulI {a b : Int} (hm : IntMulOk a b) : Bin T n .Mult (.d (.int a)) f₁ (.d (.int b)) f₂ (.int (a * b)) := ⟨fun _ _ _ r₁ r₂ h => by
  obtain ⟨t, rfl⟩ := Rep.int_inv r₁; obtain ⟨u, rfl⟩ := Rep.int_inv r₂
  exact PyProof.Rows.mul_int (h _ _ (.tok _ _) (repF_int ..)) hm⟩
theorem Bin.modI {a b : Int} (hb : b ≠ 0) : Bin T n .Mod (.d (.int a)) f₁ (.d (.int b)) f₂ (.int (a.fmod b)) := ⟨fun _ _ _ r₁ r₂ h => by
  obtain ⟨t, rfl⟩ := Rep.int_inv r₁; obtain ⟨u, rfl⟩ := Rep.int_inv r₂
  exact PyProof.Rows.mod_int' hb (h _ _ (.tok _ _) (repF_int ..))⟩
theorem Bin.divI {a b : Int} (hb : b ≠ 0) (hp : Builtin.divisionGoesByPylong a b = false) : Bin T n .FloorDiv (.d (.int a)) f₁ (.d (.int b)) f₂ (.int (a.fdiv b)) := ⟨fun _ _ _ r₁ r₂ h => by
  obtain ⟨t, rfl⟩ := Rep.int_inv r₁; obtain ⟨u, rfl⟩ := Rep.int_inv r₂
  exact PyProof.Rows.floordiv_int hb (h _ _ (.tok _ _) (repF_int ..)) (.inl hp)⟩
end
end
end Mine
end
section
open PySem PySem.Calls PyProof.Rows
set_option linter.all false
namespace Mine
variable {N : Nat}

section
variable {T : St} {n : Nat} {env : Env} {Γ : Gm}

theorem Bin.addS {f₁ f₂ : Fl} {x y : Str} (hz : x.length + y.length ≤ sizeLine) : Bin T n .Add (.d (.str x)) f₁ (.d (.str y)) f₂ (.str (x ++ y)) := ⟨fun _ _ _ r₁ r₂ h => by
  obtain ⟨t, rfl⟩ := Rep.str_inv r₁; obtain ⟨u, rfl⟩ := Rep.str_inv r₂
  exact SB.add (fun t' k => h _ _ (.tok _ _) (repF_str ..)) hz⟩

structure Cmp (T : St) (n : Nat) (op : CmpOp) (v₁ v₂ : Vl) (b : Bool) : Prop where
  run : ∀ {A : Around} {R₁ R₂ : Addr → Prop} {s : Shared} {E : Value → Shared → Prop} {Q : Value → Shared → Prop} {x y : Value}, Amb n A → Wd T s.heap → RepV T.w R₁ s.heap x v₁ → RepV T.w R₂ s.heap y v₂ →
    (∀ s', Kp T.N s s' → Q (.bool b) s') → wpAny T.M A (compareOp op x y) Q E s
theorem EvF.cmp {l r : PySem.Expr} {op : CmpOp} {pos : Pos} {v₁ v₂ : Vl} {f₁ f₂ : Fl} {b : Bool} (h₁ : Ev T n env Γ l v₁ f₁) (h₂ : Ev T n env Γ r v₂ f₂) (hb : Cmp T n op v₁ v₂ b) (hm : behindInMarks op r = false) :
    EvF T n env Γ (.Compare l [op] [r] pos) (.bool b) := ⟨fun hA R h =>
  wpAny_Compare1 (h₁.run hA R fun x s₁ k₁ r₁ => h₂.run hA (R.kp k₁) fun y s₂ k₂ r₂ => hb.run hA ((R.wd.kp k₁.h).kp k₂.h) (r₁.keeps k₂.h) r₂ fun s₃ k₃ => h _ s₃ ((k₁.trans k₂).trans k₃) (repF_bool b)) hm⟩
theorem truthy_b {M : Model} {A : Around} {E : Value → Shared → Prop} {s : Shared} {b : Bool} {Q : Bool → Shared → Prop} (h : Q b s) : wpAny M A (truthy (.bool b)) Q E s := fun _ _ _ => h
theorem IsT.cmp {l r : PySem.Expr} {op : CmpOp} {pos : Pos} {v₁ v₂ : Vl} {f₁ f₂ : Fl} {b : Bool} (h₁ : Ev T n env Γ l v₁ f₁) (h₂ : Ev T n env Γ r v₂ f₂) (hb : Cmp T n op v₁ v₂ b) (hm : behindInMarks op r = false) :
    IsT T n env Γ (.Compare l [op] [r] pos) b := ⟨fun hA R h =>
  wpAny_isTrue_Compare1 (h₁.run hA R fun x s₁ k₁ r₁ => h₂.run hA (R.kp k₁) fun y s₂ k₂ r₂ => hb.run hA ((R.wd.kp k₁.h).kp k₂.h) (r₁.keeps k₂.h) r₂ fun s₃ k₃ => truthy_b (h s₃ ((k₁.trans k₂).trans k₃))) hm⟩
theorem IsT.orNil {pos : Pos} : IsT T n env Γ (.BoolOp .Or [] pos) false := ⟨fun hA R h => isTrue_or_nil (h _ (.refl _))⟩
theorem IsT.or {e : PySem.Expr} {es : List PySem.Expr} {pos : Pos} {p q : Bool} (x : IsT T n env Γ e p) (y : p = false → IsT T n env Γ (.BoolOp .Or es pos) q) : IsT T n env Γ (.BoolOp .Or (e :: es) pos) (p || q) := ⟨fun hA R h => by
  refine isTrue_or (x.run hA R fun s₁ k₁ => ?_)
  cases p with
  | true => exact h _ k₁
  | false => exact (y rfl).run hA (R.kp k₁) fun s₂ k₂ => by simpa using h _ (k₁.trans k₂)⟩
theorem EvF.bo1 {op : BoolOp} {e : PySem.Expr} {pos : Pos} {d : PyData} (x : EvF T n env Γ e d) : EvF T n env Γ (.BoolOp op [e] pos) d := ⟨fun hA R h => BoolOp_one (x.run hA R h)⟩
theorem EvF.and {e₁ e₂ : PySem.Expr} {es : List PySem.Expr} {pos : Pos} {p q : Bool} (x : EvF T n env Γ e₁ (.bool p)) (y : p = true → EvF T n env Γ (.BoolOp .And (e₂ :: es) pos) (.bool q)) : EvF T n env Γ (.BoolOp .And (e₁ :: e₂ :: es) pos) (.bool (p && q)) := ⟨fun hA R h => by
  refine BoolOp_and (x.run hA R fun val s₁ k₁ r₁ => ?_)
  rw [Rep.bool_inv r₁.rep]
  refine truthy_b ?_
  cases p with
  | false => exact h _ _ k₁ (repF_bool _)
  | true => exact (y rfl).run hA (R.kp k₁) fun v₂ s₂ k₂ r₂ => by simpa using h v₂ _ (k₁.trans k₂) (by simpa using r₂.older k₁.h)⟩
theorem Cmp.eqI {a b : Int} : Cmp T n .Eq (.d (.int a)) (.d (.int b)) (a == b) := ⟨fun _ _ r₁ r₂ h => by
  obtain ⟨t, rfl⟩ := Rep.int_inv r₁; obtain ⟨u, rfl⟩ := Rep.int_inv r₂; exact PyProof.Rows.eq_int (h _ (.refl _))⟩
theorem Cmp.neI {a b : Int} : Cmp T n .NotEq (.d (.int a)) (.d (.int b)) (a != b) := ⟨fun _ _ r₁ r₂ h => by
  obtain ⟨t, rfl⟩ := Rep.int_inv r₁; obtain ⟨u, rfl⟩ := Rep.int_inv r₂; exact PyProof.Rows.ne_int (h _ (.refl _))⟩
theorem Cmp.ltI {a b : Int} : Cmp T n .Lt (.d (.int a)) (.d (.int b)) (decide (a < b)) := ⟨fun _ _ r₁ r₂ h => by
  obtain ⟨t, rfl⟩ := Rep.int_inv r₁; obtain ⟨u, rfl⟩ := Rep.int_inv r₂; exact PyProof.Rows.lt_int (h _ (.refl _))⟩
theorem Cmp.gtI {a b : Int} : Cmp T n .Gt (.d (.int a)) (.d (.int b)) (decide (a > b)) := ⟨fun _ _ r₁ r₂ h => by
  obtain ⟨t, rfl⟩ := Rep.int_inv r₁; obtain ⟨u, rfl⟩ := Rep.int_inv r₂; exact PyProof.Rows.gt_int (h _ (.refl _))⟩
theorem Cmp.geI {a b : Int} : Cmp T n .GtE (.d (.int a)) (.d (.int b)) (decide (a ≥ b)) := ⟨fun _ _ r₁ r₂ h => by
  obtain ⟨t, rfl⟩ := Rep.int_inv r₁; obtain ⟨u, rfl⟩ := Rep.int_inv r₂; exact P.ge_int (h _ (.refl _))⟩
theorem str_beq (x y : Str) : (x.cps.toList == y.cps.toList) = decide (x = y) := by
  obtain ⟨⟨a⟩⟩ := x; obtain ⟨⟨b⟩⟩ := y
  rw [Bool.eq_iff_iff]; simp
theorem Cmp.eqS {a b : Str} : Cmp T n .Eq (.d (.str a)) (.d (.str b)) (decide (a = b)) := ⟨fun _ _ r₁ r₂ h => by
  obtain ⟨t, rfl⟩ := Rep.str_inv r₁; obtain ⟨u, rfl⟩ := Rep.str_inv r₂; exact P.eq_str (by rw [str_beq]; exact h _ (.refl _))⟩
theorem Cmp.neS {a b : Str} : Cmp T n .NotEq (.d (.str a)) (.d (.str b)) (decide (a ≠ b)) := ⟨fun _ _ r₁ r₂ h => by
  obtain ⟨t, rfl⟩ := Rep.str_inv r₁; obtain ⟨u, rfl⟩ := Rep.str_inv r₂
  refine P.ne_str ?_
  have e : (a.cps.toList != b.cps.toList) = decide (a ≠ b) := by show (!(a.cps.toList == b.cps.toList)) = _; rw [str_beq]; simp
  rw [e]; exact h _ (.refl _)⟩
theorem Cmp.ninS {a b : Str} : Cmp T n .NotIn (.d (.str a)) (.d (.str b)) (!Txt.contains b a) := ⟨fun _ _ r₁ r₂ h => by
  obtain ⟨t, rfl⟩ := Rep.str_inv r₁; obtain ⟨u, rfl⟩ := Rep.str_inv r₂; exact SB.notContains (h _ (.refl _))⟩

inductive RepVs (w : World) (h : Heap) (reg : Fl → Addr → Prop) : List Value → List (Vl × Fl) → Prop where
  | nil : RepVs w h reg [] []
  | cons {v : Value} {vs : List Value} {x : Vl} {fl : Fl} {xs : List (Vl × Fl)} : RepV w (reg fl) h v x → RepVs w h reg vs xs → RepVs w h reg (v :: vs) ((x, fl) :: xs)
structure EvA (T : St) (n : Nat) (env : Env) (Γ : Gm) (es : List PySem.Expr) (xs : List (Vl × Fl)) : Prop where
  run : ∀ {A : Around} {reg : Fl → Addr → Prop} {s : Shared} {E : Value → Shared → Prop} {Q : List Value → Shared → Prop} {pos : Pos}, Amb n A → Rd T env reg Γ s →
    (∀ vals s', Kp T.N s s' → RepVs T.w s'.heap reg vals xs → Q vals s') → wpAny T.M A (spliced (backTo pos (starEach es env))) Q E s
  plain : ∀ pos, (backTo pos (starEach es env)).any (·.1) = false
theorem EvA.nil : EvA T n env Γ [] [] := ⟨fun hA R h => spliced_nil (h _ _ (.refl _) .nil), fun _ => rfl⟩
theorem EvA.cons {e : PySem.Expr} {es : List PySem.Expr} {v : Vl} {fl : Fl} {xs : List (Vl × Fl)} (x : Ev T n env Γ e v fl) (y : EvA T n env Γ es xs) (hs : starEach (e :: es) env = (false, eval e env) :: starEach es env) :
    EvA T n env Γ (e :: es) ((v, fl) :: xs) := by
  refine ⟨fun {A reg s E Q pos} hA R h => ?_, fun pos => ?_⟩
  · rw [hs]
    show wpAny T.M A (spliced ((false, eval e env) :: backTo pos (starEach es env))) Q E s
    exact spliced_cons (x.run hA R fun val s₁ k₁ r₁ => y.run hA (R.kp k₁) fun vals s₂ k₂ r₂ => h _ _ (k₁.trans k₂) (.cons (r₁.keeps k₂.h) r₂))
  · rw [hs]
    show (false || (backTo pos (starEach es env)).any (·.1)) = false
    rw [y.plain]; rfl
theorem evalArgs_any {M : Model} {A : Around} {E : Value → Shared → Prop} {s : Shared} {f : Value} {trees : List (Bool × Sem Value)} {Q : Args → Shared → Prop} (hp : trees.any (·.1) = false)
    (h : wpAny M A (spliced trees) (fun vs s' => Q ⟨vs, []⟩ s') E s) : wpAny M A (evalArgs f true trees []) Q E s := by
  cases trees with
  | nil =>
    unfold evalArgs
    show wpAny M A (spliced [] >>= _) Q E s
    refine wpAny_bind (wpAny_mono h (fun vs s' h' => ?_) fun _ _ x => x)
    refine wpAny_holding ?_
    exact wpAny_bind (wpAny_pure (wpAny_bind (wpAny_pure (wpAny_pure h'))))
  | cons t r =>
    obtain ⟨b, t⟩ := t
    cases b with
    | true => simp at hp
    | false => exact evalArgs_plain h
end
end Mine
end
section
open PySem PySem.Calls PyProof.Rows
set_option linter.all false
namespace Mine
variable {N : Nat}

def clampTo (n : Nat) (dflt : Nat) : Option Int → Nat
  | none => dflt
  | some i => if i < 0 then (i + n).toNat else min i.toNat n
def pyCut {α : Type} (lo hi : Option Int) (l : List α) : List α := (l.drop (clampTo l.length 0 lo)).take (clampTo l.length l.length hi - clampTo l.length 0 lo)

theorem sliceBounds_eq (lo hi : Option Int) (n : Nat) : sliceBounds lo hi none n = (((clampTo n 0 lo : Nat) : Int), ((clampTo n n hi : Nat) : Int), (1 : Int)) := by
  unfold sliceBounds clampTo
  cases lo <;> cases hi <;> (try simp) <;> (try split) <;> (try split) <;> (try (simp; omega)) <;> (try omega)
end Mine
namespace Mine
variable {N : Nat}
theorem slicePick_cut (vs : List Value) (lo hi : Option Int) : slicePick (List.toArray vs) lo hi none = (pyCut lo hi vs).toArray := by
  unfold slicePick
  rw [sliceBounds_eq]
  simp only [sliceRange_one, pick_run, List.size_toArray]
  rfl
theorem strIdx_eq (lo hi : Option Int) (n : Nat) : Builtin.Str.strSliceIndices lo hi 1 n = (List.range (clampTo n n hi - clampTo n 0 lo)).map (clampTo n 0 lo + ·) := by
  have e := sliceBounds_eq lo hi n
  rw [← sliceRange_one]
  unfold sliceBounds at e
  unfold Builtin.Str.strSliceIndices
  simp only [Option.getD_none, show (1 : Int) > 0 by decide, if_true, Prod.mk.injEq, and_true] at e ⊢
  obtain ⟨e1, e2⟩ := e
  rw [← e1, ← e2]
  cases lo <;> cases hi <;> rfl
theorem pyCut_whole {α : Type} (lo hi : Option Int) (l : List α) (h : (pyCut lo hi l).length = l.length) : pyCut lo hi l = l := by
  unfold pyCut at h ⊢
  generalize clampTo l.length 0 lo = a at h ⊢
  generalize clampTo l.length l.length hi = b at h ⊢
  simp only [List.length_take, List.length_drop] at h
  by_cases hl : l.length = 0
  · have : l = [] := List.eq_nil_of_length_eq_zero hl
    subst this; simp
  · have ha : a = 0 := by omega
    subst ha
    simp only [List.drop_zero, Nat.sub_zero] at h ⊢
    exact List.take_of_length_le (by omega)
theorem slice_cut (x : Str) (lo hi : Option Int) : Txt.slice x lo hi = ⟨(pyCut lo hi x.cps.toList).toArray⟩ := by
  unfold Txt.slice
  rw [strIdx_eq]
  have hp : (((List.range (clampTo x.length x.length hi - clampTo x.length 0 lo)).map (clampTo x.length 0 lo + ·)).filterMap (x.cps[·]?)) = pyCut lo hi x.cps.toList := by
    rw [pick_run]; rfl
  rw [hp]
  split
  · rename_i h
    simp only [beq_self_eq_true, Bool.true_and, beq_iff_eq, List.length_map, List.length_range] at h
    have hw : pyCut lo hi x.cps.toList = x.cps.toList := by
      refine pyCut_whole _ _ _ ?_
      unfold pyCut
      simp only [List.length_take, List.length_drop, Array.length_toList]
      have : x.length = x.cps.size := rfl
      rw [← this]
      have h3 : clampTo x.length 0 lo ≤ x.length := by unfold clampTo; split <;> (try split) <;> omega
      have h4 : clampTo x.length x.length hi ≤ x.length := by unfold clampTo; split <;> (try split) <;> omega
      omega
    rw [hw]
  · rfl

theorem seqIndex_nat {i : Int} {k : Nat} (h0 : 0 ≤ i) (hk : i.toNat < k) : seqIndex? i k = some i.toNat := by
  unfold seqIndex?
  have h1 : ¬ i < 0 := by omega
  have h2 : i < (k : Int) := by omega
  simp [h1, h0, h2]

section
variable {T : St} {n : Nat} {env : Env} {Γ : Gm}

structure CallB (T : St) (n : Nat) (fv : Value) (xs : List (Vl × Fl)) (d : PyData) : Prop where
  run : ∀ {A : Around} {reg : Fl → Addr → Prop} {s : Shared} {E : Value → Shared → Prop} {Q : Value → Shared → Prop} {vals : List Value}, Amb n A → Regs reg s.heap → Wd T s.heap → RepVs T.w s.heap reg vals xs →
    (∀ val s', Kp T.N s s' → RepF T.w (reg .c) s.heap s'.heap val d → Q val s') → wpAny T.M A (call fv vals) Q E s
def Machine (fv : Value) : Prop := (∃ id, fv = .builtin id) ∨ ∃ t, fv = .type t
theorem callWith_machine {M : Model} {A : Around} {E : Value → Shared → Prop} {s : Shared} {pos : Pos} {fv : Value} {first : List Value} {args : List (Bool × Sem Value)} {Q : Value → Shared → Prop} (hf : Machine fv) (hplain : args.any (·.1) = false)
    (h : wpAny M A (evalArgs fv true args []) (fun a s₁ => wpAny M A (call fv (first ++ a.pos) a.kw) Q E s₁) E s) : wpAny M A (callWith pos fv first args []) Q E s := by
  rcases hf with ⟨id, rfl⟩ | ⟨t, rfl⟩
  · exact callWith_builtin hplain h
  · exact PyProof.Rows.callWith_type hplain h
theorem ld_builtin {A : Around} {E : Value → Shared → Prop} {reg : Fl → Addr → Prop} {s : Shared} {x : Str} {pos : Pos} {v : Value} {Q : Value → Shared → Prop} (R : Rd T env reg Γ s) (hx : env.kindOf x = some .globalImplicit) (hd : (x == ("__debug__" : Str)) = false) (hg : T.mg x = none) (hb : T.mb x = some v)
    (h : Q v s) : wpAny T.M A (eval (.Name x pos) env) Q E s :=
  Name_function_global R.eok.kind hx (loadGlobal_builtin (by rw [R.eok.g]; exact R.wd.g) hg (by rw [R.eok.b]; exact R.wd.b) hb h) hd
theorem ld_global {A : Around} {E : Value → Shared → Prop} {reg : Fl → Addr → Prop} {s : Shared} {x : Str} {pos : Pos} {v : Value} {Q : Value → Shared → Prop} (R : Rd T env reg Γ s) (hx : env.kindOf x = some .globalImplicit) (hd : (x == ("__debug__" : Str)) = false) (hg : T.mg x = some v)
    (h : Q v s) : wpAny T.M A (eval (.Name x pos) env) Q E s :=
  Name_function_global R.eok.kind hx (loadGlobal_global (by rw [R.eok.g]; exact R.wd.g) hg h) hd
theorem EvF.callB {f : Str} {p pos : Pos} {args : List PySem.Expr} {xs : List (Vl × Fl)} {fv : Value} {d : PyData} (hx : env.kindOf f = some .globalImplicit) (hd : (f == ("__debug__" : Str)) = false) (hg : T.mg f = none) (hb : T.mb f = some fv) (hf : Machine fv)
    (ha : EvA T n env Γ args xs) (hc : CallB T n fv xs d) : EvF T n env Γ (.Call (.Name f p) args [] pos) d := ⟨fun {A reg s E Q} hA R h =>
  Call_Name rfl (ld_builtin R hx hd hg hb (callWith_machine hf (ha.plain pos) (evalArgs_any (ha.plain pos) (ha.run hA R fun vals s₁ k₁ r₁ => hc.run hA (R.regs.kp k₁.h) (R.wd.kp k₁.h) r₁ fun val s₂ k₂ r₂ => h val s₂ (k₁.trans k₂) (r₂.older k₁.h)))))⟩

inductive RepAs (w : World) (h : Heap) : List Value → List Vl → Prop where
  | nil : RepAs w h [] []
  | cons {v : Value} {vs : List Value} {x : Vl} {xs : List Vl} : RepV w (fun _ => True) h v x → RepAs w h vs xs → RepAs w h (v :: vs) (x :: xs)
theorem RepVs.any {w : World} {h : Heap} {reg : Fl → Addr → Prop} {vs : List Value} {xs : List (Vl × Fl)} (r : RepVs w h reg vs xs) : RepAs w h vs (xs.map (·.1)) := by
  induction r with
  | nil => exact .nil
  | cons a _ ih => exact .cons (a.mono fun _ _ => trivial) ih
structure Calls (T : St) (n : Nat) (f : Addr) (xs : List Vl) (d : PyData) : Prop where
  run : ∀ {A : Around} {s : Shared} {E : Value → Shared → Prop} {Q : Value → Shared → Prop} {vals : List Value} (D : Addr → Prop), Amb n A → Wd T s.heap → (∀ a, D a → s.heap.get? a ≠ none) → RepAs T.w s.heap vals xs →
    (∀ val s', Kp T.N s s' → RepF T.w (fun a => ¬ D a) s.heap s'.heap val d → Q val s') → wpAny T.M A (call (.ref f) vals) Q E s
theorem Calls.le {f : Addr} {xs : List Vl} {d : PyData} {m : Nat} (x : Calls T m f xs d) (h : m ≤ n) : Calls T n f xs d := ⟨fun D hA => x.run D (hA.le h)⟩
def FnAt (T : St) (a : Addr) (fd : FuncData) : Prop := ∃ o, T.K.lookup a = some o ∧ o.data = .func fd
theorem EvF.call {f : Str} {p pos : Pos} {args : List PySem.Expr} {xs : List (Vl × Fl)} {a : Addr} {fd : FuncData} {d : PyData} (hx : env.kindOf f = some .globalImplicit) (hd : (f == ("__debug__" : Str)) = false) (hg : T.mg f = some (.ref a)) (hf : FnAt T a fd)
    (ha : EvA T n env Γ args xs) (hc : Calls T n a (xs.map (·.1)) d) : EvF T n env Γ (.Call (.Name f p) args [] pos) d := ⟨fun {A reg s E Q} hA R h => by
  obtain ⟨o, ho, hdat⟩ := hf
  refine Call_Name rfl (ld_global R hx hd hg (callWith_function (o := o) (fd := fd) (evalArgs_any (ha.plain pos) (ha.run hA R fun vals s₁ k₁ r₁ => ⟨⟨(R.wd.kp k₁.h).k a o ho, hdat⟩, ?_⟩))))
  refine hc.run (fun b => ¬ reg .c b) hA (R.wd.kp k₁.h) (fun b hb e => hb ((R.regs.kp k₁.h).fresh .c b e)) r₁.any fun val s₂ k₂ r₂ => h val s₂ (k₁.trans k₂) ((r₂.older k₁.h).mono fun b hb => Classical.byContradiction hb)⟩

structure Meth (T : St) (n : Nat) (name : Str) (v : Vl) (fl : Fl) (xs : List (Vl × Fl)) (d : PyData) : Prop where
  run : ∀ {A : Around} {reg : Fl → Addr → Prop} {s : Shared} {E : Value → Shared → Prop} {Q : Value → Shared → Prop} {ov : Value}, Amb n A → RepV T.w (reg fl) s.heap ov v →
    ∃ Ty id, PlainAttrs Ty ∧ PySem.Slot Ty name id ∧ typeOf (.builtin id) = pure (.type "method_descriptor") ∧ s.TypeIs ov Ty ∧ (∀ a, ov = .ref a → ∃ ob, s.heap.get? a = some ob ∧ ob.dict = none) ∧
      ∀ s₁ vals, Kp T.N s s₁ → Regs reg s₁.heap → Wd T s₁.heap → RepVs T.w s₁.heap reg vals xs → (∀ val s', Kp T.N s₁ s' → RepF T.w (reg .c) s₁.heap s'.heap val d → Q val s') → wpAny T.M A (call (.builtin id) (ov :: vals)) Q E s₁
theorem EvF.meth {o : PySem.Expr} {name : Str} {apos pos : Pos} {args : List PySem.Expr} {v : Vl} {fl : Fl} {xs : List (Vl × Fl)} {d : PyData} (ho : Ev T n env Γ o v fl) (ha : EvA T n env Γ args xs) (hm : Meth T n name v fl xs d)
    (hbase : attributeBase o name env (eval o env) = eval o env) (hfew : decide (args.length < 30) = true) (hline : (apos.endLine == pos.line) = true) : EvF T n env Γ (.Call (.Attribute o name apos) args [] pos) d := ⟨fun {A reg s E Q} hA R h => by
  refine wpAny_Call_method_lateS hbase ?_ hline (ho.run hA R fun ov s₁ k₁ r₁ => ?_)
  · have h1 : (backTo pos (starEach args env)).all (fun x => !x.1) = true := by
      have := ha.plain pos
      rw [List.any_eq_false] at this
      rw [List.all_eq_true]
      intro x hx
      have := this x hx
      simpa using this
    rw [h1]
    show (true && true && decide (args.length + 0 + 0 < 30)) = true
    simpa using hfew
  · obtain ⟨Ty, id, h1, h2, h3, h4, h5, h6⟩ := hm.run (E := E) (Q := Q) hA r₁
    refine ⟨Ty, id, h1, h2, h3, h4, h5, callWith_machine (.inl ⟨id, rfl⟩) (ha.plain pos) (evalArgs_any (ha.plain pos) (ha.run hA (R.kp k₁) fun vals s₂ k₂ r₂ => ?_))⟩
    exact h6 s₂ vals k₂ ((R.regs.kp k₁.h).kp k₂.h) ((R.wd.kp k₁.h).kp k₂.h) r₂ fun val s₃ k₃ r₃ => h val s₃ ((k₁.trans k₂).trans k₃) (r₃.older (k₁.trans k₂).h)⟩

structure Sub (T : St) (n : Nat) (v : Vl) (fl : Fl) (iv : Vl) (d : PyData) (fl' : Fl) : Prop where
  run : ∀ {A : Around} {reg : Fl → Addr → Prop} {R₂ : Addr → Prop} {s : Shared} {E : Value → Shared → Prop} {Q : Value → Shared → Prop} {ov ival : Value}, Amb n A → Regs reg s.heap → RepV T.w (reg fl) s.heap ov v → RepV T.w R₂ s.heap ival iv →
    (∀ val s', Kp T.N s s' → Rep T.w (reg fl') s'.heap val d → Q val s') → ∃ Ty id, typeLookup (.type Ty) "__getitem__" = pure (some (.builtin id)) ∧ s.TypeIs ov Ty ∧ wpAny T.M A (getItem ov ival) Q E s
theorem Ev.sub {e i : PySem.Expr} {pos : Pos} {v iv : Vl} {fl f₂ fl' : Fl} {d : PyData} (h₁ : Ev T n env Γ e v fl) (h₂ : Ev T n env Γ i iv f₂) (hs : Sub T n v fl iv d fl') (hp : ∀ o i', subscripted i false o i' = operate [o, i'] (getItem o i')) :
    Ev T n env Γ (.Subscript e i pos) (.d d) fl' := ⟨fun {A reg s E Q} hA R h =>
  Subscript_ (h₁.run hA R fun ov s₁ k₁ r₁ => h₂.run hA (R.kp k₁) fun ival s₂ k₂ r₂ => by
    obtain ⟨Ty, id, hl, hT, hg⟩ := hs.run (E := E) (Q := Q) hA ((R.regs.kp k₁.h).kp k₂.h) (r₁.keeps k₂.h) r₂ fun val s₃ k₃ r₃ => h val s₃ ((k₁.trans k₂).trans k₃) r₃
    exact tail_any hT hl hg (hp _ _))⟩
theorem Sub.str {fl : Fl} {x : Str} {i : Int} {c : Nat} (h0 : 0 ≤ i) (hc : x.cps.toList[i.toNat]? = some c) (hz : x.length ≤ sizeLine) : Sub T n (.d (.str x)) fl (.d (.int i)) (.str ⟨#[c]⟩) .c := ⟨fun {A reg R₂ s E Q ov ival} hA _ r₁ r₂ h => by
  obtain ⟨t, rfl⟩ := Rep.str_inv r₁; obtain ⟨u, rfl⟩ := Rep.int_inv r₂
  have hlt : i.toNat < x.cps.size := by have := (List.getElem?_eq_some_iff.mp hc).1; simpa using this
  have hx : x.cps.size ≤ 2 ^ 24 := hz
  have hch : Txt.charAt x i = some c := by
    unfold Txt.charAt
    have : seqIndex? i x.length = some i.toNat := seqIndex_nat h0 hlt
    rw [this]; simpa using hc
  refine ⟨"str", _, F.slot_str_getitem.lookup, typeIs_str _ _ _, SB.getItem ?_ (by rw [hch]; rfl) (h _ _ (.tok _ _) ?_)⟩
  · unfold fitsSsize
    simp only [Bool.not_eq_true', Bool.or_eq_false_iff, decide_eq_false_iff_not]
    omega
  · have : Txt.item x i = ⟨#[c]⟩ := by unfold Txt.item; rw [hch]; rfl
    rw [this]; exact rep_str ..⟩
theorem Sub.list {fl : Fl} {xs : List PyData} {i : Int} {d : PyData} (h0 : 0 ≤ i) (hi : i < 2 ^ 63) (hd : xs[i.toNat]? = some d) : Sub T n (.d (.list xs)) fl (.d (.int i)) d fl := ⟨fun {A reg R₂ s E Q ov ival} hA _ r₁ r₂ h => by
  obtain ⟨a, vs, rfl, hR, hl, hall⟩ := Rep.list_inv r₁; obtain ⟨u, rfl⟩ := Rep.int_inv r₂
  obtain ⟨v, hv, hr⟩ := hall.get _ d hd
  exact ⟨"list", _, slot_list_getitem.lookup, hl.typeIs, wpAny_getItem_list hl h0 hi (by simpa using hv) (h _ _ (.refl _) hr)⟩⟩
theorem RepVs.all_c {w : World} {h : Heap} {reg : Fl → Addr → Prop} : ∀ {vs : List Value} {ds : List PyData}, RepVs w h reg vs (ds.map fun d => (Vl.d d, Fl.c)) → RepAll w (reg .c) h vs ds
  | _, [], .nil => RepAll.nil
  | _, _ :: _, .cons a r => RepAll.cons a r.all_c
theorem EvF.list {es : List PySem.Expr} {pos : Pos} {ds : List PyData} (ha : EvA T n env Γ es (ds.map fun d => (.d d, .c))) (hz : ds.length ≤ sizeLine) : EvF T n env Γ (.List es pos) (.list ds) := ⟨fun {A reg s E Q} hA R h =>
  List_ (ha.run hA R fun vals s₁ k₁ r₁ => by
    have hall := r₁.all_c
    refine wpAny_newObj_type (h _ _ (k₁.trans (.push _ _)) ((repF_listP (fun b => (R.regs.kp k₁.h).fresh .c b) hall).older k₁.h)) (by show vals.toArray.size ≤ sizeLine; rw [List.size_toArray, hall.length]; exact hz))⟩
end
end Mine
end
section
open PySem PySem.Calls PyProof.Rows
set_option linter.all false
namespace Mine
variable {N : Nat}

def ChgH (N : Nat) (X : Addr → Prop) (h h' : Heap) : Prop := ∀ b o, h.get? b = some o → ¬ X b → ∃ sl, h'.get? b = some { o with slots := sl } ∧ ((o.cls ≠ .type "frame" ∨ b < N ∨ ∃ vs, o.data = .fields vs) → sl = o.slots)
theorem ChgH.of_kp {X : Addr → Prop} {h h' : Heap} (k : KpH N h h') : ChgH N X h h' := fun b o e _ => k b o e
theorem ChgH.trans {X Y : Addr → Prop} {h₁ h₂ h₃ : Heap} (x : ChgH N X h₁ h₂) (y : ChgH N Y h₂ h₃) (hxy : ∀ b o, h₁.get? b = some o → Y b → X b) : ChgH N X h₁ h₃ := fun b o e hb => by
  obtain ⟨sl, e1, f1⟩ := x b o e hb
  obtain ⟨sl', e2, f2⟩ := y b _ e1 fun hy => hb (hxy b o e hy)
  exact ⟨sl', e2, fun hc => (f2 hc).trans (f1 hc)⟩
theorem ChgH.of_but {z : Addr} {h h' : Heap} (k : Heap.SameBut z h h') : ChgH N (· = z) h h' := fun b o e hb => ⟨o.slots, (k.2 b hb).trans e, fun _ => rfl⟩
theorem ChgH.mono {X Y : Addr → Prop} {h h' : Heap} (x : ChgH N X h h') (hXY : ∀ b, X b → Y b) : ChgH N Y h h' := fun b o e hb => x b o e fun hx => hb (hXY b hx)
theorem ChgH.gets {X : Addr → Prop} {h h' : Heap} (x : ChgH N X h h') {b : Addr} {o : Obj} (e : h.get? b = some o) (hb : ¬ X b) : ∃ o', h'.get? b = some o' ∧ o'.cls = o.cls ∧ o'.dict = o.dict ∧ o'.data = o.data := by
  obtain ⟨sl, e1, _⟩ := x b o e hb
  exact ⟨_, e1, rfl, rfl, rfl⟩

def NotTup (h : Heap) (z : Addr) : Prop := ∀ o vs n, h.get? z = some o → o.cls = .type "tuple" → o.data ≠ .seq vs n
mutual
theorem reads_chg {X : Addr → Prop} {h h' : Heap} (hk : ChgH N X h h') (hX : ∀ z, X z → NotTup h z) : ∀ {v : Value} {d : PyData} {as : List Addr}, Reads h v d as → (∀ a ∈ as, ¬ X a) → Reads h' v d as
  | _, _, _, .none, _ => .none
  | _, _, _, .bool b, _ => .bool b
  | _, _, _, .int i t, _ => .int i t
  | _, _, _, .str x t, _ => .str x t
  | _, _, _, .list ho hc hd ha, hn => by obtain ⟨sl, e, _⟩ := hk _ _ ho (hn _ (.head _)); exact .list e hc hd (readsAll_chg hk hX ha fun a ha' => hn a (.tail _ ha'))
  | _, _, _, .tuple ho hc hd ha, hn => by obtain ⟨sl, e, _⟩ := hk _ _ ho (fun hx => hX _ hx _ _ _ ho hc hd); exact .tuple e hc hd (readsAll_chg hk hX ha hn)
  | _, _, _, .dict ho hc hd ha hb, hn => by
    obtain ⟨sl, e, _⟩ := hk _ _ ho (hn _ (by simp))
    exact .dict e hc hd (readsAll_chg hk hX ha fun a h' => hn a (by simp [h'])) (readsAll_chg hk hX hb fun a h' => hn a (by simp [h']))
theorem readsAll_chg {X : Addr → Prop} {h h' : Heap} (hk : ChgH N X h h') (hX : ∀ z, X z → NotTup h z) : ∀ {vs : List Value} {ds : List PyData} {as : List Addr}, ReadsAll h vs ds as → (∀ a ∈ as, ¬ X a) → ReadsAll h' vs ds as
  | _, _, _, .nil, _ => .nil
  | _, _, _, .cons h1 h2, hn => .cons (reads_chg hk hX h1 fun a ha => hn a (by simp [ha])) (readsAll_chg hk hX h2 fun a ha => hn a (by simp [ha]))
end
section
variable {w : World} {R : Addr → Prop} {X : Addr → Prop} {h h' : Heap} {v : Value}
theorem Dok.chg {as : List Addr} (x : Dok w h as) (hk : ChgH N X h h') (hn : ∀ a ∈ as, ¬ X a) : Dok w h' as := fun a ha => by
  obtain ⟨o, ho, r⟩ := x a ha
  obtain ⟨o', e, _, _, ed⟩ := hk.gets ho (hn a ha)
  exact ⟨o', e, by rw [ed]; exact r⟩
theorem Rep.chg {d : PyData} (x : Rep w R h v d) (hk : ChgH N X h h') (hX : ∀ z, X z → NotTup h z) (hR : ∀ a, R a → ¬ X a) : Rep w R h' v d :=
  let ⟨as, r, hr, hd⟩ := x; ⟨as, reads_chg hk hX r fun a ha => hR a (hr a ha), hr, hd.chg hk fun a ha => hR a (hr a ha)⟩
theorem FieldsRep.chg (hk : ChgH N X h h') (hX : ∀ z, X z → NotTup h z) (hR : ∀ a, R a → ¬ X a) : ∀ {es : List DictEntry} {fs : List (Str × PyData)}, FieldsRep w R h es fs → FieldsRep w R h' es fs
  | [], [], _ => trivial
  | _ :: _, (_, _) :: _, ⟨a, b, c, r⟩ => ⟨a, b, c.chg hk hX hR, FieldsRep.chg hk hX hR r⟩
theorem ChgH.plain (hk : ChgH N X h h') {b : Addr} {o : Obj} (e : h.get? b = some o) (hb : ¬ X b) (hc : o.cls ≠ .type "frame") : h'.get? b = some o := by
  obtain ⟨sl, e1, f1⟩ := hk b o e hb
  rw [e1, f1 (.inl hc)]
theorem RepV.chg {x : Vl} (r : RepV w R h v x) (hk : ChgH N X h h') (hX : ∀ z, X z → NotTup h z) (hR : ∀ a, R a → ¬ X a) : RepV w R h' v x := by
  cases x with
  | d x => exact Rep.chg r hk hX hR
  | i C fs =>
    obtain ⟨x, dx, es, n, a1, a2, a3, a4, a5, a6⟩ := r
    exact ⟨x, dx, es, n, a1, a2, a3, hk.plain a4 (hR _ a2) (by simp), hk.plain a5 (hR _ a3) (by simp), a6.chg hk hX hR⟩
theorem Rep.there {d : PyData} (x : Rep w R h v d) : Rep w (fun a => R a ∧ h.get? a ≠ none) h v d :=
  let ⟨as, r, hr, hd⟩ := x; ⟨as, r, fun a ha => ⟨hr a ha, by obtain ⟨o, e, _⟩ := hd a ha; rw [e]; simp⟩, hd⟩
theorem FieldsRep.there : ∀ {es : List DictEntry} {fs : List (Str × PyData)}, FieldsRep w R h es fs → FieldsRep w (fun a => R a ∧ h.get? a ≠ none) h es fs
  | [], [], _ => trivial
  | _ :: _, (_, _) :: _, ⟨a, b, c, r⟩ => ⟨a, b, c.there, r.there⟩
theorem RepV.there {x : Vl} (r : RepV w R h v x) : RepV w (fun a => R a ∧ h.get? a ≠ none) h v x := by
  cases x with
  | d x => exact Rep.there r
  | i C fs =>
    obtain ⟨x, dx, es, n, a1, a2, a3, a4, a5, a6⟩ := r
    exact ⟨x, dx, es, n, a1, ⟨a2, by rw [a4]; simp⟩, ⟨a3, by rw [a5]; simp⟩, a4, a5, a6.there⟩
end

structure Frm (N : Nat) (s₀ : Shared) (env : Env) (m cm : Str → Option Value) (s : Shared) : Prop where
  same : ∃ h tk, s = { s₀ with heap := h, toks := tk }
  keep : KpH N s₀.heap s.heap
  ns : s.heap.Ns env.locals m
  cell : ∀ x c, env.cells.lookup x = some c → s.heap.IsCell c (cm x)
  newL : s₀.heap.get? env.locals = none
  newC : ∀ x c, env.cells.lookup x = some c → s₀.heap.get? c = none ∧ c ≠ env.locals
  apart : env.cells.Pairwise fun x y => x.2 ≠ y.2
theorem Frm.kp {s₀ s s' : Shared} {env : Env} {m cm : Str → Option Value} (x : Frm N s₀ env m cm s) (k : Kp N s s') : Frm N s₀ env m cm s' := by
  refine ⟨?_, x.keep.trans k.h, k.h.ns x.ns, fun y c hc => k.h.cell (x.cell y c hc), x.newL, x.newC, x.apart⟩
  obtain ⟨h, tk, rfl⟩ := x.same
  obtain ⟨h', tk', rfl, _⟩ := k
  exact ⟨h', tk', rfl⟩

def Look (env : Env) (m cm : Str → Option Value) (x : Str) (v : Value) : Prop :=
  (env.kindOf x = some .local ∧ m x = some v) ∨ (env.kindOf x = some .cell ∧ (∃ c, env.cells.lookup x = some c) ∧ cm x = some v)
theorem Look.is {s₀ s : Shared} {env : Env} {m cm : Str → Option Value} {x : Str} {v : Value} (l : Look env m cm x v) (F : Frm N s₀ env m cm s) : NameIs env s.heap x v := by
  rcases l with ⟨k, e⟩ | ⟨k, ⟨c, hc⟩, e⟩
  · exact .inl ⟨k, m, F.ns, e⟩
  · exact .inr ⟨k, c, hc, e ▸ F.cell x c hc⟩

abbrev Own := Str → Option Addr
def regOf (d₀ : Addr → Prop) (env : Env) (own : Own) : Fl → Addr → Prop
  | .o, _ => True
  | .b, a => a ≠ env.locals ∧ (∀ y c, env.cells.lookup y = some c → a ≠ c) ∧ ∀ y, own y ≠ some a
  | .c, a => ¬ d₀ a ∧ a ≠ env.locals ∧ (∀ y c, env.cells.lookup y = some c → a ≠ c) ∧ ∀ y, own y ≠ some a

def SlotRep (T : St) (d₀ : Addr → Prop) (env : Env) (own : Own) (h : Heap) (x : Str) (val : Value) (v : Vl) : Fl → Prop
  | .o => ∃ d a as, v = .d d ∧ val = .ref a ∧ own x = some a ∧ Reads h val d (a :: as) ∧ (∀ b ∈ as, regOf d₀ env own .c b) ∧ Dok T.w h (a :: as)
  | .b => RepV T.w (regOf d₀ env own .b) h val v
  | .c => RepV T.w (regOf d₀ env own .c) h val v

structure CellsOk' (env : Env) : Prop where
  has : ∀ x, env.kindOf x = some .cell → ∃ c, env.cells.lookup x = some c

structure SI (T : St) (s₀ : Shared) (d₀ : Addr → Prop) (env : Env) (own : Own) (Γ : Gm) (s : Shared) : Prop where
  eok : EnvOk env
  cok : CellsOk' env
  ok : GmOk (Γ.map (·.1))
  wd0 : Wd T s₀.heap
  d0 : ∀ a, d₀ a → s₀.heap.get? a ≠ none
  ownNew : ∀ x a, own x = some a → s₀.heap.get? a = none ∧ a ≠ env.locals ∧ (∀ y c, env.cells.lookup y = some c → a ≠ c) ∧ ∃ o, s.heap.get? a = some o ∧ (o.dict = none ∧ ∀ vs, o.data ≠ .fields vs) ∧ o.cls ≠ .type "tuple" ∧ o.cls ≠ .type "frame"
  ownInj : ∀ x y a, own x = some a → own y = some a → x = y
  frm : ∃ m cm, Frm T.N s₀ env m cm s ∧ ∀ x v fl, (x, some (v, fl)) ∈ Γ → ∃ val, Look env m cm x val ∧ SlotRep T d₀ env own s.heap x val v fl

section
variable {T : St} {s₀ s s' : Shared} {d₀ : Addr → Prop} {env : Env} {own : Own} {Γ : Gm}
theorem SlotRep.kp {h h' : Heap} {x : Str} {val : Value} {v : Vl} : ∀ {fl : Fl}, SlotRep T d₀ env own h x val v fl → KpH N h h' → SlotRep T d₀ env own h' x val v fl
  | .o, ⟨d, a, as, e1, e2, e3, e4, e5, e6⟩, k => ⟨d, a, as, e1, e2, e3, reads_kp k e4, e5, e6.keeps k⟩
  | .b, r, k => RepV.keeps r k
  | .c, r, k => RepV.keeps r k
theorem SI.kp (S : SI T s₀ d₀ env own Γ s) (k : Kp T.N s s') : SI T s₀ d₀ env own Γ s' := by
  refine ⟨S.eok, S.cok, S.ok, S.wd0, S.d0, fun x a e => ?_, S.ownInj, ?_⟩
  · obtain ⟨h1, h2, h3, o, h4, h5, h6, h7⟩ := S.ownNew x a e
    exact ⟨h1, h2, h3, o, k.h.get h4 h7, h5, h6, h7⟩
  · obtain ⟨m, cm, F, hn⟩ := S.frm
    exact ⟨m, cm, F.kp k, fun x v fl hm => let ⟨val, l, r⟩ := hn x v fl hm; ⟨val, l, r.kp k.h⟩⟩
theorem SI.wd (S : SI T s₀ d₀ env own Γ s) : Wd T s.heap := by obtain ⟨m, cm, F, _⟩ := S.frm; exact S.wd0.kp F.keep
theorem SI.fresh (S : SI T s₀ d₀ env own Γ s) {a : Addr} (e : s.heap.get? a = none) : regOf d₀ env own .c a := by
  obtain ⟨m, cm, F, _⟩ := S.frm
  refine ⟨fun hd => S.d0 a hd (F.keep.none e), fun q => ?_, fun y c hc q => ?_, fun y q => ?_⟩
  · obtain ⟨o, _, _, ho, _⟩ := F.ns; rw [← q, e] at ho; cases ho
  · obtain ⟨o, ho, _⟩ := F.cell y c hc; rw [← q, e] at ho; cases ho
  · obtain ⟨_, _, _, o, ho, _⟩ := S.ownNew y a q; rw [e] at ho; cases ho
theorem regOf_cb {a : Addr} (h : regOf d₀ env own .c a) : regOf d₀ env own .b a := h.2
theorem SI.rd (S : SI T s₀ d₀ env own Γ s) : Rd T env (regOf d₀ env own) Γ s := by
  refine ⟨S.eok, S.ok, fun x v fl hm => ?_, ⟨fun fl a e => ?_, fun a h => regOf_cb h, fun a _ => trivial⟩, S.wd⟩
  · obtain ⟨m, cm, F, hn⟩ := S.frm
    obtain ⟨val, l, r⟩ := hn x v fl hm
    refine ⟨val, l.is F, ?_⟩
    cases fl with
    | c => exact r
    | b => exact r
    | o =>
      obtain ⟨d, a, as, rfl, rfl, _, e4, _, e6⟩ := r
      exact ⟨_, e4, fun _ _ => trivial, e6⟩
  · have := S.fresh e
    cases fl
    · exact this
    · exact regOf_cb this
    · trivial

def May (env : Env) (own : Own) (b : Addr) : Prop := b = env.locals ∨ (∃ y, env.cells.lookup y = some b) ∨ ∃ y, own y = some b
def Pres (N : Nat) (env : Env) (own : Own) (s s' : Shared) : Prop := (∃ h tk, s' = { s with heap := h, toks := tk }) ∧ ChgH N (May env own) s.heap s'.heap ∧ ∀ b, s'.heap.get? b = none → s.heap.get? b = none
def OwnLe (own own' : Own) (s : Shared) : Prop := ∀ y a, own' y = some a → (∃ x, own x = some a) ∨ s.heap.get? a = none
theorem OwnLe.refl (own : Own) (s : Shared) : OwnLe own own s := fun y _ e => .inl ⟨y, e⟩
theorem Pres.of_kp (k : Kp N s s') : Pres N env own s s' := by
  have hn := k.h
  obtain ⟨h', tk, rfl, hk⟩ := k
  exact ⟨⟨h', tk, rfl⟩, .of_kp hk, fun b e => hk.none e⟩
theorem Pres.trans {own' : Own} {s'' : Shared} (x : Pres N env own s s') (o : OwnLe own own' s) (y : Pres N env own' s' s'') : Pres N env own s s'' := by
  refine ⟨?_, x.2.1.trans y.2.1 fun b ob e hb => ?_, fun b e => x.2.2 b (y.2.2 b e)⟩
  · obtain ⟨⟨h, tk, rfl⟩, _⟩ := x
    obtain ⟨⟨h', tk', rfl⟩, _⟩ := y
    exact ⟨h', tk', rfl⟩
  · rcases hb with q | q | ⟨y, q⟩
    · exact .inl q
    · exact .inr (.inl q)
    · rcases o y b q with ⟨z, hz⟩ | hz
      · exact .inr (.inr ⟨z, hz⟩)
      · rw [e] at hz; cases hz
theorem OwnLe.trans {own' own'' : Own} (x : OwnLe own own' s) (y : OwnLe own' own'' s') (p : Pres N env own s s') : OwnLe own own'' s := fun z a e => by
  rcases y z a e with ⟨q, hq⟩ | hq
  · exact x q a hq
  · exact .inr (p.2.2 a hq)
theorem May.notTup (S : SI T s₀ d₀ env own Γ s) : ∀ z, May env own z → NotTup s.heap z := fun z hz o vs n e hc hd => by
  obtain ⟨m, cm, F, _⟩ := S.frm
  rcases hz with rfl | ⟨y, q⟩ | ⟨y, q⟩
  · obtain ⟨o', _, _, ho, hd', _⟩ := F.ns
    rw [ho] at e; cases e; rw [hd'] at hd; cases hd
  · obtain ⟨o', ho, hd'⟩ := F.cell y z q
    rw [ho] at e; cases e; rw [hd'] at hd; cases hd
  · obtain ⟨_, _, _, o', ho, _, h6, _⟩ := S.ownNew y z q
    rw [ho] at e; cases e; exact h6 hc
end

theorem store_wp {T : St} {A : Around} {E : Value → Shared → Prop} {Q : Unit → Shared → Prop} {s₀ s : Shared} {env : Env} {m cm : Str → Option Value} {x : Str} {val : Value} (F : Frm N s₀ env m cm s) (eok : EnvOk env) (cok : CellsOk' env) (hk : env.kindOf x = some .local ∨ env.kindOf x = some .cell)
    (h : ∀ s' m' cm', Frm N s₀ env m' cm' s' → Look env m' cm' x val → (∀ y v, y ≠ x → Look env m cm y v → Look env m' cm' y v) → (∃ h tk, s' = { s with heap := h, toks := tk }) →
      ChgH N (fun b => b = env.locals ∨ ∃ y, env.cells.lookup y = some b) s.heap s'.heap → (∀ b, s'.heap.get? b = none → s.heap.get? b = none) → Q () s') : wpAny T.M A (storeName env x val) Q E s := by
  rcases hk with hl | hl
  · refine wpAny_storeName_local hl F.ns (fun h' hn hs => h _ _ cm ⟨?_, fun b o e => ?_, hn, fun y c hc => ?_, F.newL, F.newC, F.apart⟩ (.inl ⟨hl, by simp⟩) (fun y v hy hv => ?_) ⟨_, _, rfl⟩ ?_ fun b e => ?_) (by rw [eok.kind]; rfl)
    · obtain ⟨h₁, tk, rfl⟩ := F.same; exact ⟨_, _, rfl⟩
    · obtain ⟨sl, e1, f1⟩ := F.keep b o e
      exact ⟨sl, (hs.2 b fun q => by rw [q, F.newL] at e; cases e).trans e1, f1⟩
    · exact (F.cell y c hc).sameBut hs (F.newC y c hc).2
    · rcases hv with ⟨a, b⟩ | r
      · exact .inl ⟨a, by simp [hy, b]⟩
      · exact .inr r
    · exact (ChgH.of_but hs).mono fun b hb => .inl hb
    · by_cases hb : b = env.locals
      · obtain ⟨o, _, _, ho, _⟩ := hn; subst hb; rw [ho] at e; cases e
      · exact (hs.2 b hb).symm.trans e
  · obtain ⟨c, hc⟩ := cok.has x hl
    refine wpAny_storeName_cell eok.kind hl hc (F.cell x c hc) fun h' hc' hs => h _ m (fun y => if y = x then some val else cm y) ⟨?_, fun b o e => ?_, F.ns.sameBut hs (Ne.symm (F.newC x c hc).2), fun y c' hy => ?_, F.newL, F.newC, F.apart⟩ (.inr ⟨hl, ⟨c, hc⟩, by simp⟩) (fun y v hy hv => ?_) ⟨_, _, rfl⟩ ?_ fun b e => ?_
    · obtain ⟨h₁, tk, rfl⟩ := F.same; exact ⟨_, _, rfl⟩
    · obtain ⟨sl, e1, f1⟩ := F.keep b o e
      exact ⟨sl, (hs.2 b fun q => by rw [q, (F.newC x c hc).1] at e; cases e).trans e1, f1⟩
    · by_cases hyx : y = x
      · subst hyx
        rw [hc] at hy; cases hy
        simpa using hc'
      · simp only [hyx, if_false]
        exact (F.cell y c' hy).sameBut hs fun e => hyx (name_of_addr F.apart (mem_of_lookup hy) (e ▸ mem_of_lookup hc))
    · rcases hv with r | ⟨a, b, d⟩
      · exact .inl r
      · exact .inr ⟨a, b, by simp [hy, d]⟩
    · exact (ChgH.of_but hs).mono fun b hb => .inr ⟨x, hb ▸ hc⟩
    · by_cases hb : b = c
      · obtain ⟨o, ho, _⟩ := hc'; subst hb; rw [ho] at e; cases e
      · exact (hs.2 b hb).symm.trans e

inductive Put : Gm → Str → Slot → Gm → Prop where
  | here {x : Str} {u sl : Slot} {Γ : Gm} : Put ((x, u) :: Γ) x sl ((x, sl) :: Γ)
  | there {x y : Str} {u sl : Slot} {Γ Γ' : Gm} : Put Γ x sl Γ' → Put ((y, u) :: Γ) x sl ((y, u) :: Γ')
theorem Put.names {Γ Γ' : Gm} {x : Str} {sl : Slot} (p : Put Γ x sl Γ') : Γ'.map (·.1) = Γ.map (·.1) := by
  induction p with
  | here => rfl
  | there _ ih => simp [ih]
theorem Put.mem {Γ Γ' : Gm} {x : Str} {sl : Slot} (p : Put Γ x sl Γ') : x ∈ Γ.map (·.1) := by
  induction p with
  | here => simp
  | there _ ih => simp [ih]
theorem Put.cases {Γ Γ' : Gm} {x : Str} {sl : Slot} (p : Put Γ x sl Γ') (hn : (Γ.map (·.1)).Nodup) : ∀ y t, (y, t) ∈ Γ' → (y = x ∧ t = sl) ∨ (y ≠ x ∧ (y, t) ∈ Γ) := by
  induction p with
  | @here x u sl Γ =>
    intro y t hm
    rcases List.mem_cons.mp hm with e | hm'
    · cases e; exact .inl ⟨rfl, rfl⟩
    · refine .inr ⟨fun e => ?_, .tail _ hm'⟩
      simp only [List.map_cons, List.nodup_cons] at hn
      exact hn.1 (e ▸ List.mem_map_of_mem (f := fun p : Str × Slot => p.1) hm')
  | @there x z u sl Γ Γ' p ih =>
    intro y t hm
    simp only [List.map_cons, List.nodup_cons] at hn
    rcases List.mem_cons.mp hm with e | hm
    · cases e
      exact .inr ⟨fun e => hn.1 (e ▸ p.mem), .head _⟩
    · rcases ih hn.2 y t hm with r | ⟨r, q⟩
      · exact .inl r
      · exact .inr ⟨r, .tail _ q⟩

section
variable {T : St} {s₀ s s₁ : Shared} {d₀ : Addr → Prop} {env : Env} {own own' : Own} {Γ Γ' : Gm}
theorem regOf_le (hle : ∀ a, (∀ y, own y ≠ some a) → ∀ y, own' y ≠ some a) : ∀ (fl : Fl) (a : Addr), regOf d₀ env own fl a → regOf d₀ env own' fl a
  | .o, _, _ => trivial
  | .b, a, h => ⟨h.1, h.2.1, hle a h.2.2⟩
  | .c, a, h => ⟨h.1, h.2.1, h.2.2.1, hle a h.2.2.2⟩
theorem SI.store {A : Around} {E : Value → Shared → Prop} {Q : Unit → Shared → Prop} {x : Str} {val : Value} {sl : Slot} (S : SI T s₀ d₀ env own Γ s) (k : Kp T.N s s₁) (hp : Put Γ x sl Γ') (hk : env.kindOf x = some .local ∨ env.kindOf x = some .cell)
    (ho : ∀ y, y ≠ x → own' y = own y) (hnew : ∀ a, own' x = some a → s.heap.get? a = none ∧ ∃ o, s₁.heap.get? a = some o ∧ (o.dict = none ∧ ∀ vs, o.data ≠ .fields vs) ∧ o.cls ≠ .type "tuple" ∧ o.cls ≠ .type "frame")
    (hsl : ∀ v fl, sl = some (v, fl) → SlotRep T d₀ env own' s₁.heap x val v fl)
    (h : ∀ s', SI T s₀ d₀ env own' Γ' s' → Pres T.N env own s s' → OwnLe own own' s → Q () s') : wpAny T.M A (storeName env x val) Q E s₁ := by
  have S₁ := S.kp k
  obtain ⟨m, cm, F, hnm⟩ := S.frm
  refine store_wp (F.kp k) S.eok S.cok hk fun s' m' cm' F' hlx hly hsame hchg halive => ?_
  have hle : ∀ a, s.heap.get? a ≠ none → (∀ y, own y ≠ some a) → ∀ y, own' y ≠ some a := fun a ha hy y q => by
    by_cases hyx : y = x
    · subst hyx; exact ha (hnew a q).1
    · rw [ho y hyx] at q; exact hy y q
  have chg : ChgH T.N (fun b => b = env.locals ∨ ∃ y, env.cells.lookup y = some b) s.heap s'.heap := (ChgH.of_kp k.h).trans hchg fun _ _ _ hb => hb
  have ntup : ∀ z, (z = env.locals ∨ ∃ y, env.cells.lookup y = some z) → NotTup s₁.heap z := fun z hz => May.notTup S₁ z (hz.elim .inl fun q => .inr (.inl q))
  have regUp : ∀ (fl : Fl) (a : Addr), (regOf d₀ env own fl a ∧ s.heap.get? a ≠ none) → regOf d₀ env own' fl a
    | .o, _, _ => trivial
    | .b, a, r => ⟨r.1.1, r.1.2.1, hle a r.2 r.1.2.2⟩
    | .c, a, r => ⟨r.1.1, r.1.2.1, r.1.2.2.1, hle a r.2 r.1.2.2.2⟩
  have notX : ∀ (fl : Fl), fl ≠ .o → ∀ a, regOf d₀ env own' fl a → ¬ (a = env.locals ∨ ∃ y, env.cells.lookup y = some a) := fun fl hfl a hr => by
    cases fl with
    | o => exact absurd rfl hfl
    | b => rintro (q | ⟨y, q⟩); exact hr.1 q; exact hr.2.1 y a q rfl
    | c => rintro (q | ⟨y, q⟩); exact hr.2.1 q; exact hr.2.2.1 y a q rfl
  have owned : ∀ z a, own' z = some a → a ≠ env.locals ∧ (∀ y c, env.cells.lookup y = some c → a ≠ c) ∧ s₀.heap.get? a = none ∧ ∃ o, s₁.heap.get? a = some o ∧ (o.dict = none ∧ ∀ vs, o.data ≠ .fields vs) ∧ o.cls ≠ .type "tuple" ∧ o.cls ≠ .type "frame" := fun z a q => by
    by_cases hz : z = x
    · subst hz
      obtain ⟨e1, e2⟩ := hnew a q
      have := S.fresh e1
      exact ⟨this.2.1, this.2.2.1, F.keep.none e1, e2⟩
    · rw [ho z hz] at q
      obtain ⟨h1, h2, h3, h4⟩ := S₁.ownNew z a q
      exact ⟨h2, h3, h1, h4⟩
  refine h s' ⟨S.eok, S.cok, by rw [hp.names]; exact S.ok, S.wd0, S.d0, fun z a q => ?_, fun z y a q r => ?_, m', cm', F', fun y v fl hm => ?_⟩ ⟨?_, ?_, fun b e => k.h.none (halive b e)⟩ fun y a q => ?_
  · obtain ⟨h1, h2, h3, o, h4, h5, h6, h7⟩ := owned z a q
    exact ⟨h3, h1, h2, o, hchg.plain h4 (fun hx => hx.elim (fun e => h1 e) fun ⟨y, e⟩ => h2 y a e rfl) h7, h5, h6, h7⟩
  · by_cases hz : z = x <;> by_cases hy : y = x
    · rw [hz, hy]
    · subst hz
      rw [ho y hy] at r
      obtain ⟨_, _, _, o, h4, _⟩ := S.ownNew y a r
      rw [(hnew a q).1] at h4; cases h4
    · subst hy
      rw [ho z hz] at q
      obtain ⟨_, _, _, o, h4, _⟩ := S.ownNew z a q
      rw [(hnew a r).1] at h4; cases h4
    · rw [ho z hz] at q; rw [ho y hy] at r; exact S.ownInj z y a q r
  · rcases hp.cases S.ok.nodup y _ hm with ⟨rfl, e⟩ | ⟨hyx, hm⟩
    · refine ⟨val, hlx, ?_⟩
      have r := hsl v fl e.symm
      cases fl with
      | c => exact RepV.chg r hchg ntup (notX .c (by simp))
      | b => exact RepV.chg r hchg ntup (notX .b (by simp))
      | o =>
        obtain ⟨d, a, as, e1, e2, e3, e4, e5, e6⟩ := r
        have hna : ∀ b ∈ a :: as, ¬ (b = env.locals ∨ ∃ y, env.cells.lookup y = some b) := fun b hb => by
          rcases List.mem_cons.mp hb with rfl | hb
          · have := owned _ b e3
            rintro (q | ⟨y, q⟩); exact this.1 q; exact this.2.1 y b q rfl
          · exact notX .c (by simp) b (e5 b hb)
        exact ⟨d, a, as, e1, e2, e3, reads_chg hchg ntup e4 hna, e5, e6.chg hchg hna⟩
    · obtain ⟨val', l, r⟩ := hnm y v fl hm
      refine ⟨val', hly y val' hyx l, ?_⟩
      cases fl with
      | c => exact RepV.chg (((RepV.there r).mono (regUp .c)).keeps k.h) hchg ntup (notX .c (by simp))
      | b => exact RepV.chg (((RepV.there r).mono (regUp .b)).keeps k.h) hchg ntup (notX .b (by simp))
      | o =>
        obtain ⟨d, a, as, e1, e2, e3, e4, e5, e6⟩ := r
        have e5' : ∀ b ∈ as, regOf d₀ env own' .c b := fun b hb => regUp .c b ⟨e5 b hb, by obtain ⟨o, e, _⟩ := e6 b (.tail _ hb); rw [e]; simp⟩
        have hna : ∀ b ∈ a :: as, ¬ (b = env.locals ∨ ∃ y, env.cells.lookup y = some b) := fun b hb => by
          rcases List.mem_cons.mp hb with rfl | hb
          · have := owned y b (by rw [ho y hyx]; exact e3)
            rintro (q | ⟨y, q⟩); exact this.1 q; exact this.2.1 y b q rfl
          · exact notX .c (by simp) b (e5' b hb)
        exact ⟨d, a, as, e1, e2, by rw [ho y hyx]; exact e3, reads_chg hchg ntup (reads_kp k.h e4) hna, e5', (e6.keeps k.h).chg hchg hna⟩
  · obtain ⟨h₁, tk, rfl⟩ := hsame
    obtain ⟨h₂, tk₂, rfl, _⟩ := k
    exact ⟨_, _, rfl⟩
  · exact chg.mono fun b hb => hb.elim .inl fun q => .inr (.inl q)
  · by_cases hyx : y = x
    · subst hyx; exact .inr (hnew a q).1
    · rw [ho y hyx] at q; exact .inl ⟨y, q⟩
end
end Mine
end
section
open PySem PySem.Calls PyProof.Rows
set_option linter.all false
namespace Mine
variable {N : Nat}

abbrev ExcK := Addr
inductive Fw where
  | next | brk | cont
  | ret (d : PyData)
  | exc (k : ExcK)

def ExcRep (T : St) (A : Around) (env : Env) (s₀ : Shared) (d₀ : Addr → Prop) (k : ExcK) (e : Value) (s : Shared) : Prop := False

def FlowRep (T : St) (s₀ : Shared) (d₀ : Addr → Prop) (s : Shared) : Flow → Fw → Prop
  | .next, .next => True
  | .brk, .brk => True
  | .cont, .cont => True
  | .ret v, .ret d => RepF T.w (fun a => ¬ d₀ a) s₀.heap s.heap v d
  | _, _ => False

structure Ex (T : St) (n : Nat) (env : Env) (Γ : Gm) (ss : List Stmt) (Q : Fw → Gm → Prop) : Prop where
  run : ∀ {A : Around} {s₀ : Shared} {d₀ : Addr → Prop} {own : Own} {s : Shared} {E : Value → Shared → Prop} {QQ : Flow → Shared → Prop}, Amb n A → SI T s₀ d₀ env own Γ s →
    (∀ f f' s' Γ' own', SI T s₀ d₀ env own' Γ' s' → Pres T.N env own s s' → OwnLe own own' s → FlowRep T s₀ d₀ s' f f' → Q f' Γ' → QQ f s') →
    (∀ k e s' Γ' own', SI T s₀ d₀ env own' Γ' s' → Pres T.N env own s s' → OwnLe own own' s → ExcRep T A env s₀ d₀ k e s' → Q (.exc k) Γ' → E e s') → wpAny T.M A (execs ss env) QQ E s
structure Ex1 (T : St) (n : Nat) (env : Env) (Γ : Gm) (st : Stmt) (Q : Fw → Gm → Prop) : Prop where
  run : ∀ {A : Around} {s₀ : Shared} {d₀ : Addr → Prop} {own : Own} {s : Shared} {E : Value → Shared → Prop} {QQ : Flow → Shared → Prop}, Amb n A → SI T s₀ d₀ env own Γ s →
    (∀ f f' s' Γ' own', SI T s₀ d₀ env own' Γ' s' → Pres T.N env own s s' → OwnLe own own' s → FlowRep T s₀ d₀ s' f f' → Q f' Γ' → QQ f s') →
    (∀ k e s' Γ' own', SI T s₀ d₀ env own' Γ' s' → Pres T.N env own s s' → OwnLe own own' s → ExcRep T A env s₀ d₀ k e s' → Q (.exc k) Γ' → E e s') → wpAny T.M A (exec st env) QQ E s

def Thn (T : St) (n : Nat) (env : Env) (rest : List Stmt) (Q : Fw → Gm → Prop) : Fw → Gm → Prop
  | .next, Γ => Ex T n env Γ rest Q
  | .brk, Γ => Q .brk Γ
  | .cont, Γ => Q .cont Γ
  | .ret d, Γ => Q (.ret d) Γ
  | .exc k, Γ => Q (.exc k) Γ

section
variable {T : St} {n : Nat} {env : Env} {Γ Γ' : Gm} {Q Q' : Fw → Gm → Prop}
theorem Ex.nil (h : Q .next Γ) : Ex T n env Γ [] Q := ⟨fun hA S hq _ => wpAny_execs_nil (hq _ .next _ _ _ S (.of_kp (.refl _)) (.refl _ _) trivial h)⟩
theorem Ex.cons {st : Stmt} {rest : List Stmt} (h : Ex1 T n env Γ st (Thn T n env rest Q)) : Ex T n env Γ (st :: rest) Q := ⟨fun {A s₀ d₀ own s E QQ} hA S hq hx => by
  refine wpAny_execs_cons (h.run hA S (fun f f' s' Γ' own' S' p o fr q => ?_) fun k e s' Γ' own' S' p o er q => hx k e s' Γ' own' S' p o er q)
  cases f' with
  | next =>
    cases f <;> first | exact fr.elim | skip
    exact Ex.run q hA S' (fun g g' s'' Γ'' own'' S'' p' o' fr' q' => hq g g' s'' Γ'' own'' S'' (p.trans o p') (o.trans o' p) fr' q') fun k e s'' Γ'' own'' S'' p' o' er q' => hx k e s'' Γ'' own'' S'' (p.trans o p') (o.trans o' p) er q'
  | brk => cases f <;> first | exact fr.elim | exact hq _ .brk s' Γ' own' S' p o fr q
  | cont => cases f <;> first | exact fr.elim | exact hq _ .cont s' Γ' own' S' p o fr q
  | ret d => cases f <;> first | exact fr.elim | exact hq _ (.ret d) s' Γ' own' S' p o fr q
  | exc k => cases f <;> exact fr.elim⟩
theorem Ex1.mono {st : Stmt} (h : Ex1 T n env Γ st Q) (hm : ∀ f Γ, Q f Γ → Q' f Γ) : Ex1 T n env Γ st Q' := ⟨fun hA S hq hx =>
  h.run hA S (fun f f' s' Γ' own' S' p o fr q => hq f f' s' Γ' own' S' p o fr (hm _ _ q)) fun k e s' Γ' own' S' p o er q => hx k e s' Γ' own' S' p o er (hm _ _ q)⟩

theorem Ex1.assign {x : Str} {p₁ p₂ : Pos} {e : PySem.Expr} {d : PyData} (he : EvF T n env Γ e d) (hp : Put Γ x (some (.d d, .c)) Γ') (hk : env.kindOf x = some .local ∨ env.kindOf x = some .cell)
    (hs : swapsWith e (some (.Name x p₁)) p₂.line env = pure false) (hq : Q .next Γ') : Ex1 T n env Γ (.Assign [.Name x p₁] e p₂) Q := ⟨fun {A s₀ d₀ own s E QQ} hA S h hx => by
  refine wpAny_Assign_Name (he.run hA S.rd fun val s₁ k₁ r₁ => ?_) hs
  refine S.store (own' := fun y => if y = x then none else own y) k₁ hp hk (fun y hy => by simp [hy]) (fun a e => by simp at e) (fun v fl e => ?_) fun s' S' p o => h _ .next s' Γ' _ S' p o trivial hq
  cases e
  refine RepV.mono (x := .d d) r₁.rep (regOf_le (fun a ha y => ?_) .c)
  by_cases hy : y = x
  · simp [hy]
  · simp [hy, ha y]⟩
def isMut : PyData → Bool
  | .list _ | .dict _ => true
  | _ => false
theorem Ex1.ret {p : Pos} {e : PySem.Expr} {d : PyData} (he : EvF T n env Γ e d) (hq : Q (.ret d) Γ) : Ex1 T n env Γ (.Return (some e) p) Q := ⟨fun {A s₀ d₀ own s E QQ} hA S h hx => by
  refine wpAny_Return_some (he.run hA S.rd fun val s₁ k₁ r₁ => h _ (.ret d) s₁ Γ own (S.kp k₁) (.of_kp k₁) (.refl _ _) ?_ hq)
  obtain ⟨m, cm, F, _⟩ := S.frm
  exact (r₁.older F.keep).mono fun a ha => ha.1⟩
theorem Ex1.ite {test : PySem.Expr} {body orelse : List Stmt} {p : Pos} {b : Bool} (ht : IsT T n env Γ test b) (h₁ : b = true → Ex T n env Γ body Q) (h₂ : b = false → Ex T n env Γ orelse Q) : Ex1 T n env Γ (.If test body orelse p) Q := ⟨fun {A s₀ d₀ own s E QQ} hA S h hx => by
  refine wpAny_If (ht.run hA S.rd fun s₁ k₁ => ?_)
  have h' : ∀ f f' s' Γ' own', SI T s₀ d₀ env own' Γ' s' → Pres T.N env own s₁ s' → OwnLe own own' s₁ → FlowRep T s₀ d₀ s' f f' → Q f' Γ' → QQ f s' := fun f f' s' Γ' own' S' p o fr q =>
    h f f' s' Γ' own' S' ((Pres.of_kp k₁).trans (.refl _ _) p) ((OwnLe.refl own s).trans o (Pres.of_kp (env := env) k₁)) fr q
  have hx' : ∀ k e s' Γ' own', SI T s₀ d₀ env own' Γ' s' → Pres T.N env own s₁ s' → OwnLe own own' s₁ → ExcRep T A env s₀ d₀ k e s' → Q (.exc k) Γ' → E e s' := fun k e s' Γ' own' S' p o er q =>
    hx k e s' Γ' own' S' ((Pres.of_kp k₁).trans (.refl _ _) p) ((OwnLe.refl own s).trans o (Pres.of_kp (env := env) k₁)) er q
  cases b with
  | true => exact (h₁ rfl).run hA (S.kp k₁) h' hx'
  | false => exact (h₂ rfl).run hA (S.kp k₁) h' hx'⟩
def Turn (I : Nat → Gm → Prop) (k : Nat) (Q : Fw → Gm → Prop) : Fw → Gm → Prop
  | .next, Γ => ∃ m, m < k ∧ I m Γ
  | .cont, Γ => ∃ m, m < k ∧ I m Γ
  | .brk, Γ => Q .next Γ
  | .ret d, Γ => Q (.ret d) Γ
  | .exc e, Γ => Q (.exc e) Γ
theorem Ex1.whil {test : PySem.Expr} {body : List Stmt} {p : Pos} (I : Nat → Gm → Prop) (k : Nat) (h0 : I k Γ)
    (hturn : ∀ k Γ, I k Γ → ∃ b, IsT T n env Γ test b ∧ (b = true → Ex T n env Γ body (Turn I k Q)) ∧ (b = false → Q .next Γ)) : Ex1 T n env Γ (.While test body [] p) Q := ⟨fun {A s₀ d₀ own s E QQ} hA S h hx => by
  refine wpAny_While (codeAny_whileLoop (fun k s' => ∃ Γ' own', SI T s₀ d₀ env own' Γ' s' ∧ Pres T.N env own s s' ∧ OwnLe own own' s ∧ I k Γ') (fun k s' ⟨Γ', own', S', p', o', hI⟩ => ?_) k ⟨Γ, own, S, .of_kp (.refl _), .refl _ _, h0⟩)
  obtain ⟨b, ht, hb1, hb2⟩ := hturn k Γ' hI
  refine ht.run hA S'.rd fun s₂ k₂ => ?_
  have S₂ := S'.kp k₂
  have p₂ : Pres T.N env own s s₂ := p'.trans o' (.of_kp k₂)
  have o₂ : OwnLe own own' s := o'
  cases b with
  | true =>
    refine (hb1 rfl).run hA S₂ (fun f f' s₃ Γ₃ own₃ S₃ p₃ o₃ fr q => ?_) fun k e s₃ Γ₃ own₃ S₃ p₃ o₃ er q => er.elim
    have p₄ := p₂.trans o₂ p₃
    have o₄ := o₂.trans o₃ p₂
    cases f' with
    | next => cases f <;> first | exact fr.elim | (obtain ⟨m, hm, hI'⟩ := q; exact ⟨m, hm, Γ₃, own₃, S₃, p₄, o₄, hI'⟩)
    | cont => cases f <;> first | exact fr.elim | (obtain ⟨m, hm, hI'⟩ := q; exact ⟨m, hm, Γ₃, own₃, S₃, p₄, o₄, hI'⟩)
    | brk => cases f <;> first | exact fr.elim | exact h _ .next s₃ Γ₃ own₃ S₃ p₄ o₄ trivial q
    | ret d => cases f <;> first | exact fr.elim | exact h _ (.ret d) s₃ Γ₃ own₃ S₃ p₄ o₄ fr q
    | exc e => cases f <;> exact fr.elim
  | false => exact wpAny_execs_nil (h _ .next s₂ Γ' own' S₂ p₂ o₂ trivial (hb2 rfl))⟩
end
end Mine
end
section
open PySem PySem.Calls PyProof.Rows PySem.W
set_option linter.all false
namespace Mine

structure Gd (T : St) : Prop where
  g : ∀ x r, nsIn T.K mainGlobals x = some r → T.mg x = r
  b : ∀ x : Str, x ≠ "__name__" → T.mb x = bootBuiltins x

def Fun (T : St) (n : Nat) (f : Str) (xs : List Vl) (d : PyData) : Prop := ∃ a fd, T.mg f = some (.ref a) ∧ FnAt T a fd ∧ Calls T n a xs d
theorem EvF.fn {T : St} {n m : Nat} {env : Env} {Γ : Gm} {f : Str} {p pos : Pos} {args : List PySem.Expr} {xs : List (Vl × Fl)} {d : PyData} (hx : env.kindOf f = some .globalImplicit) (hd : (f == ("__debug__" : Str)) = false)
    (ha : EvA T n env Γ args xs) (hc : Fun T m f (xs.map (·.1)) d) (hm : m ≤ n) : EvF T n env Γ (.Call (.Name f p) args [] pos) d :=
  let ⟨_, _, e1, e2, e3⟩ := hc; .call hx hd e1 e2 ha (e3.le hm)

def Binds (fd : FuncData) (ps : List Str) : Prop := ∀ vals : List Value, vals.length = ps.length → bindArgs fd ⟨vals, []⟩ = pure (ps.zip vals)
theorem Binds.of0 {fd : FuncData} (h : bindArgs fd ⟨[], []⟩ = pure []) : Binds fd [] := fun vals hv => by
  have : vals = [] := List.eq_nil_of_length_eq_zero hv
  subst this; exact h
theorem Binds.of1 {fd : FuncData} {p : Str} (h : ∀ v, bindArgs fd ⟨[v], []⟩ = pure [(p, v)]) : Binds fd [p] := fun vals hv => by
  match vals, hv with
  | [v], _ => exact h v
theorem Binds.of2 {fd : FuncData} {p q : Str} (h : ∀ v u, bindArgs fd ⟨[v, u], []⟩ = pure [(p, v), (q, u)]) : Binds fd [p, q] := fun vals hv => by
  match vals, hv with
  | [v, u], _ => exact h v u
inductive Prm : List Str → List Vl → Gm → Prop where
  | nil : Prm [] [] []
  | c {p : Str} {ps : List Str} {d : PyData} {xs : List Vl} {Γ : Gm} : still d = true → Prm ps xs Γ → Prm (p :: ps) (.d d :: xs) ((p, some (.d d, .c)) :: Γ)
  | b {p : Str} {ps : List Str} {x : Vl} {xs : List Vl} {Γ : Gm} : Prm ps xs Γ → Prm (p :: ps) (x :: xs) ((p, some (x, .b)) :: Γ)
theorem Prm.length {ps : List Str} {xs : List Vl} {Γ : Gm} (h : Prm ps xs Γ) : xs.length = ps.length := by
  induction h with
  | nil => rfl
  | c _ _ ih => simp [ih]
  | b _ ih => simp [ih]
theorem RepAs.length {w : World} {h : Heap} {vs : List Value} {xs : List Vl} (r : RepAs w h vs xs) : vs.length = xs.length := by
  induction r with
  | nil => rfl
  | cons _ _ ih => simp [ih]
theorem Prm.names {ps : List Str} {xs : List Vl} {Γ : Gm} (h : Prm ps xs Γ) : Γ.map (·.1) = ps := by
  induction h with
  | nil => rfl
  | c _ _ ih => simp [ih]
  | b _ ih => simp [ih]
theorem Prm.get {ps : List Str} {xs : List Vl} {Γ : Gm} (h : Prm ps xs Γ) {w : World} {hp : Heap} : ∀ {vs : List Value}, RepAs w hp vs xs → ∀ x v fl, (x, some (v, fl)) ∈ Γ → ∃ val, (x, val) ∈ ps.zip vs ∧ RepV w (fun _ => True) hp val v ∧ fl ≠ .o ∧ (fl = .c → ∃ d, v = .d d ∧ still d = true) := by
  induction h with
  | nil => intro vs _ x v fl hm; cases hm
  | c hs _ ih =>
    intro vs r x v fl hm
    cases r with
    | cons a r =>
      rcases List.mem_cons.mp hm with e | hm
      · cases e
        exact ⟨_, .head _, a, by simp, fun _ => ⟨_, rfl, hs⟩⟩
      · obtain ⟨val, h1, h2⟩ := ih r x v fl hm
        exact ⟨val, .tail _ h1, h2⟩
  | b _ ih =>
    intro vs r x v fl hm
    cases r with
    | cons a r =>
      rcases List.mem_cons.mp hm with e | hm
      · cases e
        exact ⟨_, .head _, a, by simp, fun q => by cases q⟩
      · obtain ⟨val, h1, h2⟩ := ih r x v fl hm
        exact ⟨val, .tail _ h1, h2⟩

theorem bindL_get {kd : Str → Option NameKind} : ∀ (binds : List (Str × Value)) (m : Str → Option Value) (x : Str) (v : Value), (binds.map (·.1)).Nodup → (x, v) ∈ binds → kd x = some .local → bindL kd binds m x = some v
  | (y, u) :: r, m, x, v, hn, hm, hk => by
    unfold bindL
    simp only [List.map_cons, List.nodup_cons] at hn
    rcases List.mem_cons.mp hm with e | hm
    · cases e
      rw [bindL_other r _ _ hn.1]
      simp [hk]
    · exact bindL_get r _ x v hn.2 hm hk
where
  bindL_other {kd : Str → Option NameKind} : ∀ (binds : List (Str × Value)) (m : Str → Option Value) (x : Str), x ∉ binds.map (·.1) → bindL kd binds m x = m x
    | [], _, _, _ => rfl
    | (y, u) :: r, m, x, hn => by
      unfold bindL
      simp only [List.map_cons, List.mem_cons, not_or] at hn
      rw [bindL_other r _ x hn.2]
      split <;> simp [hn.1]
theorem bindC_get {kd : Str → Option NameKind} : ∀ (binds : List (Str × Value)) (m : Str → Option Value) (x : Str) (v : Value), (binds.map (·.1)).Nodup → (x, v) ∈ binds → kd x ≠ some .local → bindC kd binds m x = some v
  | (y, u) :: r, m, x, v, hn, hm, hk => by
    unfold bindC
    simp only [List.map_cons, List.nodup_cons] at hn
    rcases List.mem_cons.mp hm with e | hm
    · cases e
      rw [bindC_other r _ _ hn.1]
      simp [hk]
    · exact bindC_get r _ x v hn.2 hm hk
where
  bindC_other {kd : Str → Option NameKind} : ∀ (binds : List (Str × Value)) (m : Str → Option Value) (x : Str), x ∉ binds.map (·.1) → bindC kd binds m x = m x
    | [], _, _, _ => rfl
    | (y, u) :: r, m, x, hn => by
      unfold bindC
      simp only [List.map_cons, List.mem_cons, not_or] at hn
      rw [bindC_other r _ x hn.2]
      split <;> simp [hn.1]
theorem zip_names : ∀ (ps : List Str) (vs : List Value), vs.length = ps.length → (ps.zip vs).map (·.1) = ps
  | [], [], _ => rfl
  | [], _ :: _, h => by simp at h
  | _ :: _, [], h => by simp at h
  | _ :: ps, _ :: vs, h => by simp [zip_names ps vs (by simpa using h)]

def Ends (d : PyData) : Fw → Gm → Prop
  | .ret d', _ => d' = d
  | .next, _ => d = .none
  | _, _ => False

theorem Fun.def {T : St} {n : Nat} {f : Str} {a : Addr} {xs : List Vl} {d : PyData} {name qual : Str} {params : Arguments} {body : List Stmt} {scope : Scope} {dV kV doc pm cdv ct oc : Value} {an od : Option Addr} {osl : Array (Option Value)} {ps ls : List Str} {Γp : Gm}
    (G : Gd T) (hn : nsIn T.K mainGlobals f = some (some (.ref a))) (ho : T.K.lookup a = some ⟨oc, od, .func (fnOf name qual params body scope dV kV doc pm an cdv ct), osl⟩) (hcd : codeIn T.K cdv qual = true)
    (hb : Binds (fnOf name qual params body scope dV kV doc pm an cdv ct) ps) (hp : Prm ps xs Γp) (hok : GmOk (ps ++ ls)) (hk : ∀ x ∈ ps, scope.names.lookup x = some .local ∨ scope.names.lookup x = some .cell)
    (hsc : scope.kind = .function ∧ scope.isCoroutine = false ∧ scope.isGenerator = false)
    (h : ∀ env : Env, env.scope = scope → Ex T n env (Γp ++ ls.map fun x => (x, none)) body (Ends d)) : Fun T (n + 1) f xs d := by
  refine ⟨a, _, G.g f _ hn, ⟨_, ho, rfl⟩, ⟨fun {A s E Q vals} D hA hw hD hr hq => ?_⟩⟩
  have hlen : vals.length = ps.length := hr.length.trans hp.length
  have hnd : ((ps.zip vals).map (·.1)).Nodup := by rw [zip_names ps vals hlen]; exact (List.nodup_append.mp hok.nodup).1
  have hcs : ∀ k x, scope.names.lookup x = some .cell → ∃ c, (cellsFrom k scope.names []).lookup x = some c := fun k x e => Option.isSome_iff_exists.mp (cellsFrom_some scope.names k [] (.inl e))
  refine wpAny_call (codeAny_call_cells (fd := fnOf name qual params body scope dV kV doc pm an cdv ct) (body := body) (binds := ps.zip vals) (by have := hA.depth; omega) (hw.k a _ ho) rfl hw.lim (codeRec_of (fun b o e => hw.k b o e) hcd) rfl (hb vals hlen) rfl (fun x hx => ?_) (fun s₁ I => ?_) hsc.2.1 hsc.2.2 hsc.1)
  · have hxp : x.1 ∈ ps := by have := List.mem_map_of_mem (f := fun p : Str × Value => p.1) hx; rwa [zip_names ps vals hlen] at this
    rcases hk x.1 hxp with e | e
    · exact .inl e
    · exact .inr ⟨e, by obtain ⟨c, hc⟩ := hcs (s.heap.objs.size + 1) x.1 e; show ((cellsFrom _ scope.names []).lookup x.1).isSome = true; rw [hc]; rfl⟩
  · have hL : (callEnvC (fnOf name qual params body scope dV kV doc pm an cdv ct) s.heap.objs.size a).locals = s.heap.objs.size := rfl
    have hkd : ∀ x, (callEnvC (fnOf name qual params body scope dV kV doc pm an cdv ct) s.heap.objs.size a).kindOf x = scope.names.lookup x := fun _ => rfl
    have hfr : Frm T.N s (callEnvC (fnOf name qual params body scope dV kV doc pm an cdv ct) s.heap.objs.size a) (bindL (callEnvC (fnOf name qual params body scope dV kV doc pm an cdv ct) s.heap.objs.size a).kindOf (ps.zip vals) fun _ => none)
        (bindC (callEnvC (fnOf name qual params body scope dV kV doc pm an cdv ct) s.heap.objs.size a).kindOf (ps.zip vals) fun _ => none) s₁ :=
      ⟨I.toInCall.same, .of I.toInCall.keep, I.toInCall.ns, I.cell, Heap.get?_none_of_le (by rw [hL]; exact Nat.le_refl _), fun x c hc => by
        have this : s.heap.objs.size < c := I.above x c (mem_of_lookup hc)
        exact ⟨Heap.get?_none_of_le (Nat.le_of_lt this), Nat.ne_of_gt this⟩, I.apart⟩
    have S : SI T s D (callEnvC (fnOf name qual params body scope dV kV doc pm an cdv ct) s.heap.objs.size a) (fun _ => none) (Γp ++ ls.map fun x => (x, none)) s₁ := by
      refine ⟨⟨hsc.1, rfl, rfl, fun x hx => hcs _ x hx⟩, ⟨fun x hx => hcs _ x hx⟩, ?_, hw, hD, fun x a e => (by cases e), fun x y a e => (by cases e), _, _, hfr, fun x v fl hm => ?_⟩
      · rw [List.map_append, hp.names]
        have : (ls.map fun x => ((x, none) : Str × Slot)).map (·.1) = ls := by rw [List.map_map]; exact List.map_id' ls
        rw [this]; exact hok
      · rcases List.mem_append.mp hm with hm | hm
        · obtain ⟨val, h1, h2, h3, h4⟩ := hp.get hr x v fl hm
          have hxp : x ∈ ps := by have := List.mem_map_of_mem (f := fun p : Str × Value => p.1) h1; rwa [zip_names ps vals hlen] at this
          refine ⟨val, ?_, ?_⟩
          · rcases hk x hxp with e | e
            · exact .inl ⟨e, bindL_get _ _ x val hnd h1 e⟩
            · exact .inr ⟨e, hcs _ x e, bindC_get _ _ x val hnd h1 (by rw [hkd, e]; simp)⟩
          · cases fl with
            | o => exact absurd rfl h3
            | c =>
              obtain ⟨d', rfl, hs⟩ := h4 rfl
              exact Rep.keeps (Rep.still h2 hs) hfr.keep
            | b =>
              refine RepV.keeps (RepV.mono (RepV.there h2) fun b hb => ⟨fun q => hb.2 ?_, fun y c hc q => hb.2 ?_, fun y => by simp⟩) hfr.keep
              · rw [q]; exact hfr.newL
              · rw [q]; exact (hfr.newC y c hc).1
        · obtain ⟨y, _, e⟩ := List.mem_map.mp hm
          cases e
    refine (h _ rfl).run (hA.deeper _) S (fun g g' s' Γ' own' S' p o fr q => ?_) fun k e s' Γ' own' S' p o er q => er.elim
    obtain ⟨m, cm, F', _⟩ := S'.frm
    have hkp : Kp T.N s s' := by obtain ⟨h', tk, rfl⟩ := F'.same; exact ⟨h', tk, rfl, F'.keep⟩
    cases g' with
    | ret d' =>
      cases g <;> first | exact fr.elim | skip
      have : d' = d := q
      subst this
      exact hq _ s' hkp fr
    | next =>
      cases g <;> first | exact fr.elim | skip
      have : d = .none := q
      subst this
      exact hq _ s' hkp repF_none
    | brk => exact q.elim
    | cont => exact q.elim
    | exc k => exact q.elim
end Mine
end
section
open PySem PySem.Calls PyProof.Rows PySem.W
set_option linter.all false
namespace Mine

mutual
theorem reads_notRec {h : Heap} : ∀ {v : Value} {d : PyData} {as : List Addr}, Reads h v d as → ∀ a ∈ as, ∃ o, h.get? a = some o ∧ ∀ vs, o.data ≠ .fields vs
  | _, _, _, .none, a, ha => by cases ha
  | _, _, _, .bool b, a, ha => by cases ha
  | _, _, _, .int i t, a, ha => by cases ha
  | _, _, _, .str x t, a, ha => by cases ha
  | _, _, _, .list ho hc hd hall, a, ha => by
    rcases List.mem_cons.mp ha with e | ha
    · subst e; exact ⟨_, ho, by rw [hd]; simp⟩
    · exact readsAll_notRec hall a ha
  | _, _, _, .tuple ho hc hd hall, a, ha => readsAll_notRec hall a ha
  | _, _, _, .dict ho hc hd h1 h2, a, ha => by
    simp only [List.cons_append, List.mem_cons, List.mem_append] at ha
    rcases ha with e | ha | ha
    · subst e; exact ⟨_, ho, by rw [hd]; simp⟩
    · exact readsAll_notRec h1 a ha
    · exact readsAll_notRec h2 a ha
theorem readsAll_notRec {h : Heap} : ∀ {vs : List Value} {ds : List PyData} {as : List Addr}, ReadsAll h vs ds as → ∀ a ∈ as, ∃ o, h.get? a = some o ∧ ∀ vs, o.data ≠ .fields vs
  | _, _, _, .nil, a, ha => by cases ha
  | _, _, _, .cons h1 h2, a, ha => by
    rcases List.mem_append.mp ha with ha | ha
    · exact reads_notRec h1 a ha
    · exact readsAll_notRec h2 a ha
end
def IsRec (h : Heap) (b : Addr) : Prop := ∃ o vs, h.get? b = some o ∧ o.data = .fields vs
theorem Rep.notRec {w : World} {R : Addr → Prop} {h : Heap} {v : Value} {d : PyData} (x : Rep w R h v d) : Rep w (fun a => R a ∧ ¬ IsRec h a) h v d :=
  let ⟨as, r, hr, hd⟩ := x; ⟨as, r, fun a ha => ⟨hr a ha, fun ⟨o, vs, e, q⟩ => by obtain ⟨o', e', hn⟩ := reads_notRec r a ha; rw [e] at e'; cases e'; exact hn vs q⟩, hd⟩
theorem isRec_notTup {h : Heap} {z : Addr} (hz : IsRec h z) : NotTup h z := fun o vs n e _ hd => by
  obtain ⟨o', vs', e', hd'⟩ := hz
  rw [e] at e'; cases e'; rw [hd] at hd'; cases hd'

section
variable {T : St} {s₀ s s' : Shared} {d₀ : Addr → Prop} {env : Env} {own : Own} {Γ : Gm}
end

structure Wk (T : St) (A : Around) (I : Addr) (fp wr : List Addr) (n : Nat) (P : Nat → Value → Prop) (St : Nat → Heap → Prop) : Prop where
  walks : Walks T.prog T.w A I fp wr n P St
  rcd : ∀ i h, St i h → ∀ b ∈ wr, IsRec h b
  nf : ∀ i h, St i h → ∀ b ∈ fp, ∃ o, h.get? b = some o ∧ o.cls ≠ .type "frame"
def TupObj (h : Heap) (b : Addr) : Prop := ∃ o vs k, h.get? b = some o ∧ o.cls = .type "tuple" ∧ o.data = .seq vs k
structure Itr (T : St) (n : Nat) (env : Env) (Γ : Gm) (e : PySem.Expr) (items : List PyData) (fl : Fl) : Prop where
  run : ∀ {A : Around} {reg : Fl → Addr → Prop} {s : Shared} {E : Value → Shared → Prop} {Q : Value → Shared → Prop}, Amb n A → Rd T env reg Γ s →
    (∀ I s₂ fp wr P St, Kp T.N s s₂ → Wk T A I fp wr items.length P St → St 0 s₂.heap → (∀ b ∈ wr, s.heap.get? b = none) → (∀ b ∈ fp, b ∈ wr ∨ reg fl b ∨ TupObj s₂.heap b) →
      (∀ i v, i < items.length → P i v → ∃ d, items[i]? = some d ∧ Rep T.w (reg fl) s₂.heap v d) → Q (.ref I) s₂) → wpAny T.M A (eval e env) (fun x s₁ => wpAny T.M A (pyIter x) Q E s₁) E s
  hs : ∀ x, foldedSetIterable e env x = pure x

def TurnF (I : Nat → Gm → Prop) (i : Nat) (Q : Fw → Gm → Prop) : Fw → Gm → Prop
  | .next, Γ => I (i + 1) Γ
  | .cont, Γ => I (i + 1) Γ
  | .brk, Γ => Q .next Γ
  | .ret d, Γ => Q (.ret d) Γ
  | .exc e, Γ => Q (.exc e) Γ

section
variable {T : St} {n : Nat} {env : Env} {Γ Γ' : Gm} {Q Q' : Fw → Gm → Prop}
end
end Mine
end
section
open PySem PySem.Calls PyProof.Rows PySem.W
set_option linter.all false
namespace Mine

section
variable {T : St} {n : Nat} {env : Env} {Γ Γ' : Gm}
theorem Itr.list {e : PySem.Expr} {items : List PyData} {fl : Fl} (he : Ev T n env Γ e (.d (.list items)) fl) (hs : ∀ x, foldedSetIterable e env x = pure x) : Itr T n env Γ e items fl := ⟨fun {A reg s E Q} hA R h => by
  refine he.run hA R fun val s₁ k₁ r₁ => ?_
  obtain ⟨a, vs, rfl, hR, hl, hall⟩ := Rep.list_inv r₁
  have hlt : a < s₁.heap.objs.size := by obtain ⟨_, e, _⟩ := hl; exact Heap.lt_size e
  have hkp : KpH T.N s₁.heap (s₁.heap.push { cls := .type "list_iterator", data := .fields #[.ref a, .int 0 0] }) := (KpH.refl _).push _
  have hlen : vs.toArray.size = items.length := by rw [List.size_toArray]; exact hall.length
  refine wpAny_pyIter_list hl (h s₁.heap.objs.size _ [s₁.heap.objs.size, a] [s₁.heap.objs.size] (fun i v => vs.toArray[i]? = some v) (fun i h => h.IsListIter s₁.heap.objs.size a i ∧ h.IsList a vs.toArray) (k₁.trans (.push _ _))
    ⟨hlen ▸ Walks.list hA.handled _ _ (Nat.ne_of_lt hlt) vs.toArray, fun i h st b hb => ?_, fun i h st b hb => ?_⟩ ⟨⟨_, Heap.get?_push_size _ rfl, rfl, rfl⟩, hl.push _⟩ (fun b hb => ?_) (fun b hb => ?_) fun i v _ hv => ?_)
  · simp only [List.mem_singleton] at hb; subst hb
    obtain ⟨o, ho, _, hd⟩ := st.1
    exact ⟨o, _, ho, hd⟩
  · simp only [List.mem_cons, List.not_mem_nil, or_false] at hb
    rcases hb with rfl | rfl
    · obtain ⟨o, ho, hc, _⟩ := st.1; exact ⟨o, ho, by rw [hc]; simp⟩
    · obtain ⟨o, ho, hc, _⟩ := st.2; exact ⟨o, ho, by rw [hc]; simp⟩
  · simp only [List.mem_singleton] at hb; subst hb
    exact k₁.h.none (Heap.get?_none_of_le (Nat.le_refl _))
  · simp only [List.mem_cons, List.not_mem_nil, or_false] at hb
    rcases hb with rfl | rfl
    · exact .inl (by simp)
    · exact .inr (.inl hR)
  · have hv' : vs[i]? = some v := by simpa using hv
    have hi : i < items.length := by rw [← hall.length]; exact (List.getElem?_eq_some_iff.mp hv').1
    obtain ⟨v', hv2, hr⟩ := hall.get i items[i] (List.getElem?_eq_getElem hi)
    rw [hv'] at hv2; cases hv2
    exact ⟨_, List.getElem?_eq_getElem hi, hr.keeps hkp⟩, hs⟩

def rangeD (k : Nat) : List PyData := (List.range k).map fun (i : Nat) => PyData.int (i : Int)
theorem rangeD_length (k : Nat) : (rangeD k).length = k := by simp [rangeD]
theorem rangeD_get {k i : Nat} {d : PyData} (h : (rangeD k)[i]? = some d) : i < k ∧ d = .int (i : Int) := by
  have hi : i < k := by have := (List.getElem?_eq_some_iff.mp h).1; rwa [rangeD_length] at this
  refine ⟨hi, ?_⟩
  have : (rangeD k)[i]? = some (.int (i : Int)) := by simp [rangeD, hi]
  rw [this] at h; cases h; rfl
theorem rangeD_at {k i : Nat} (hi : i < k) : (rangeD k)[i]? = some (.int (i : Int)) := by simp [rangeD, hi]
theorem Itr.range {e : PySem.Expr} {p pos : Pos} {N : Int} {fl : Fl} (hx : env.kindOf "range" = some .globalImplicit) (hg : T.mg "range" = none) (hb : T.mb "range" = some (.type "range")) (he : Ev T n env Γ e (.d (.int N)) fl) (hlo : -(2 ^ 62) ≤ N) (hhi : N < 2 ^ 62)
    (hse : starEach [e] env = [(false, eval e env)]) : Itr T n env Γ (.Call (.Name "range" p) [e] [] pos) (rangeD N.toNat) .c := ⟨fun {A reg s E Q} hA R h => by
  refine wpAny_Call_NameR (ld_builtin R hx (by decide +kernel) hg hb ?_)
  have hb1 : backTo pos (starEach [e] env) = [(false, eval e env)] := by rw [hse]; rfl
  rw [hb1]
  refine PyProof.Rows.callWith_type rfl (evalArgs_plain (spliced_cons (he.run hA R fun val s₁ k₁ r₁ => spliced_nil ?_)))
  obtain ⟨t, rfl⟩ := Rep.int_inv r₁
  refine call_range_1 ?_
  refine wpAny_pyIter_range (IsRange.new ..) (small_one (by decide) (by decide) hlo hhi) ?_
  have hsz : Builtin.Range.rangeSize 0 N 1 = (N.toNat : Int) := by rw [rangeSize_one]; split <;> omega
  refine h _ _ [_] [_] (fun i v => ∃ t, v = .int (0 + (i : Nat) * 1) t) (fun i h => IsRangeIter h _ (0 + (i : Nat) * 1) ((N.toNat : Int) - (i : Nat)) 1) (k₁.trans (.mk (((KpH.refl _).push _).push _))) ⟨by rw [rangeD_length]; exact Walks.range hA.handled _ 0 1 N.toNat, fun i h st b hb => ?_, fun i h st b hb => ?_⟩ ?_ (fun b hb => ?_) (fun b hb => .inl hb) fun i v hi hv => ?_
  · simp only [List.mem_singleton] at hb; subst hb; exact ⟨_, _, st, rfl⟩
  · simp only [List.mem_singleton] at hb; subst hb; exact ⟨_, st, by simp⟩
  · have e1 : (0 + ((0 : Nat) : Int) * 1) = 0 := by simp
    have e2 : ((N.toNat : Int) - ((0 : Nat) : Int)) = Builtin.Range.rangeSize 0 N 1 := by rw [hsz]; simp
    rw [e1, e2]
    exact Heap.get?_push_size _ rfl
  · simp only [List.mem_singleton] at hb; subst hb
    refine k₁.h.none (Heap.get?_none_of_le ?_)
    simp [Heap.size_push]
  · obtain ⟨t, rfl⟩ := hv
    rw [rangeD_length] at hi
    exact ⟨_, rangeD_at hi, by simpa using rep_int ..⟩, fun x => rfl⟩
end

theorem forIn_closure {env : Env} (f : Str × NameKind → List (Str × Addr) → Sem (ForInStep (List (Str × Addr))))
    (hf : ∀ name kind cs, f (name, kind) cs = if kind == .free then (do let c ← cellOf env name; pure (.yield ((name, c) :: cs))) else pure (.yield cs)) :
    ∀ (names : List (Str × NameKind)) (acc : List (Str × Addr)), (∀ x, (x, NameKind.free) ∈ names → ∃ c, env.cells.lookup x = some c) → (∀ y c, acc.lookup y = some c → env.cells.lookup y = some c) →
      ∃ cl, forIn names acc f = pure cl ∧ (∀ y c, cl.lookup y = some c → env.cells.lookup y = some c) ∧ (∀ y, ((y, NameKind.free) ∈ names ∨ (acc.lookup y).isSome = true) → ∃ c, cl.lookup y = some c)
  | [], acc, _, hacc => ⟨acc, by rw [List.forIn_nil], hacc, fun y hy => by
      rcases hy with hy | hy
      · cases hy
      · exact Option.isSome_iff_exists.mp hy⟩
  | (name, kind) :: r, acc, hn, hacc => by
    rw [List.forIn_cons, hf]
    by_cases hk : (kind == .free) = true
    · have hk' : kind = .free := by simpa using hk
      subst hk'
      obtain ⟨c, hc⟩ := hn name (.head _)
      have e : cellOf env name = pure c := by unfold cellOf; rw [hc]
      rw [if_pos hk, e]
      obtain ⟨cl, h1, h2, h3⟩ := forIn_closure f hf r ((name, c) :: acc) (fun x hx => hn x (.tail _ hx)) (fun y c' hy => by
        rw [List.lookup_cons] at hy
        by_cases hb : (y == name) = true
        · rw [hb] at hy; cases hy; rw [beq_iff_eq.mp hb]; exact hc
        · simp only [Bool.not_eq_true] at hb; rw [hb] at hy; exact hacc y c' hy)
      refine ⟨cl, h1, h2, fun y hy => h3 y ?_⟩
      rcases hy with hy | hy
      · rcases List.mem_cons.mp hy with e | hy
        · cases e; exact .inr (by rw [List.lookup_cons]; simp)
        · exact .inl hy
      · refine .inr ?_
        rw [List.lookup_cons]
        by_cases hb : (y == name) = true
        · rw [hb]; rfl
        · simp only [Bool.not_eq_true] at hb; rw [hb]; exact hy
    · rw [if_neg hk]
      obtain ⟨cl, h1, h2, h3⟩ := forIn_closure f hf r acc (fun x hx => hn x (.tail _ hx)) hacc
      refine ⟨cl, h1, h2, fun y hy => h3 y ?_⟩
      rcases hy with hy | hy
      · rcases List.mem_cons.mp hy with e | hy
        · cases e; simp at hk
        · exact .inl hy
      · exact .inr hy
theorem closure_ok {env : Env} {scope : Scope} (h : ∀ x, (x, NameKind.free) ∈ scope.names → ∃ c, env.cells.lookup x = some c) :
    ∃ cl, closureFor scope env = pure cl ∧ (∀ y c, cl.lookup y = some c → env.cells.lookup y = some c) ∧ ∀ y, (y, NameKind.free) ∈ scope.names → ∃ c, cl.lookup y = some c := by
  have key : ∀ f : Str × NameKind → List (Str × Addr) → Sem (ForInStep (List (Str × Addr))), (∀ name kind cs, f (name, kind) cs = if kind == .free then (do let c ← cellOf env name; pure (.yield ((name, c) :: cs))) else pure (.yield cs)) →
      ∃ cl, ((forIn scope.names [] f : Sem (List (Str × Addr))) >>= fun r => pure r) = pure cl ∧ (∀ y c, cl.lookup y = some c → env.cells.lookup y = some c) ∧ ∀ y, (y, NameKind.free) ∈ scope.names → ∃ c, cl.lookup y = some c := fun f hf => by
    obtain ⟨cl, h1, h2, h3⟩ := forIn_closure (env := env) f hf scope.names [] h (fun y c hy => by cases hy)
    exact ⟨cl, by rw [h1]; rfl, h2, fun y hy => h3 y (.inl hy)⟩
  unfold closureFor
  refine key _ fun name kind cs => ?_
  cases hk : kind == NameKind.free <;> simp [hk]

theorem relabel_free {env : Env} (hk : env.scope.kind = .function) : ∀ {names : List (Str × NameKind)} {x : Str}, names.lookup x = some .free → env.kindOf x = some .cell →
    (names.map fun (n, k) => if (k == NameKind.free && env.scope.kind == .function && env.kindOf n == some .cell) then (n, NameKind.cell) else (n, k)).lookup x = some .cell
  | [], _, h, _ => by simp at h
  | (n, k) :: r, x, h, hx => by
    have ih := @relabel_free env hk r x
    show List.lookup x ((if (k == NameKind.free && env.scope.kind == .function && env.kindOf n == some .cell) = true then (n, NameKind.cell) else (n, k)) :: _) = _
    cases hn : x == n with
    | true =>
      simp only [List.lookup_cons, hn] at h
      cases h
      have : x = n := beq_iff_eq.mp hn
      subst this
      simp [List.lookup_cons, hk, hx]
    | false =>
      simp only [List.lookup_cons, hn] at h
      by_cases hc : (k == NameKind.free && env.scope.kind == .function && env.kindOf n == some .cell) = true
      · rw [if_pos hc]; simp only [List.lookup_cons, hn]; exact ih h hx
      · rw [if_neg hc]; simp only [List.lookup_cons, hn]; exact ih h hx
theorem relabel_cell {env : Env} : ∀ {names : List (Str × NameKind)} {x : Str}, (∀ y ∈ names, y.2 ≠ .cell) →
    (names.map fun (n, k) => if (k == NameKind.free && env.scope.kind == .function && env.kindOf n == some .cell) then (n, NameKind.cell) else (n, k)).lookup x = some .cell → (x, NameKind.free) ∈ names
  | [], _, _, h => by simp at h
  | (n, k) :: r, x, hc, h => by
    have ih := @relabel_cell env r x fun y hy => hc y (.tail _ hy)
    replace h : List.lookup x ((if (k == NameKind.free && env.scope.kind == .function && env.kindOf n == some .cell) = true then (n, NameKind.cell) else (n, k)) :: _) = some .cell := h
    by_cases hcc : (k == NameKind.free && env.scope.kind == .function && env.kindOf n == some .cell) = true
    · rw [if_pos hcc, List.lookup_cons] at h
      cases hn : x == n with
      | true =>
        simp only [Bool.and_eq_true, beq_iff_eq] at hcc
        rw [beq_iff_eq.mp hn, ← hcc.1.1]; exact .head _
      | false => rw [hn] at h; exact .tail _ (ih h)
    · rw [if_neg hcc, List.lookup_cons] at h
      cases hn : x == n with
      | true => rw [hn] at h; cases h; exact absurd rfl (hc _ (.head _))
      | false => rw [hn] at h; exact .tail _ (ih h)

structure CompScope (scope : Scope) (env : Env) (x : Str) : Prop where
  kind : scope.kind = .function
  ncell : ∀ y ∈ scope.names, y.2 ≠ .cell
  names : ∀ y ∈ scope.names, y.2 = .local → scope.names.lookup y.1 = some .local
  var : scope.names.lookup x = some .local
  free : ∀ y ∈ scope.names, y.2 = .free → env.kindOf y.1 = some .cell
def itemFl (fl : Fl) (d : PyData) : Fl := if still d then .c else fl
def compG (x : Str) (fl : Fl) (Γv : Gm) (d : PyData) : Gm := (x, some (.d d, itemFl fl d)) :: Γv
def CTests (T : St) (n : Nat) (env : Env) (Γ : Gm) (ifs : List PySem.Expr) (b : Bool) : Prop := match ifs with
  | [] => b = true
  | [c] => IsT T n env Γ c b
  | _ => False
theorem CTests.run {T : St} {n : Nat} {env : Env} {Γ : Gm} {ifs : List PySem.Expr} {b : Bool} (h : CTests T n env Γ ifs b) {A : Around} {reg : Fl → Addr → Prop} {s : Shared} {E : Value → Shared → Prop} {Q : Bool → Shared → Prop} (hA : Amb n A) (R : Rd T env reg Γ s)
    (hq : ∀ s', Kp T.N s s' → Q b s') : wpAny T.M A (forIn ifs true fun c r => if r = true then do let ok ← isTrue c env (eval c env); pure (ForInStep.yield ok) else pure (ForInStep.yield r)) Q E s := by
  match ifs, h with
  | [], h => have : b = true := h; subst this; exact wpAny_tests_nil (hq _ (.refl _))
  | [c], h => exact wpAny_tests_one (IsT.run h hA R hq)

theorem RepAll.chg {w : World} {R : Addr → Prop} {X : Addr → Prop} {N : Nat} {h h' : Heap} {vs : List Value} {ds : List PyData} (x : RepAll w R h vs ds) (hk : ChgH N X h h') (hX : ∀ z, X z → NotTup h z) (hR : ∀ a, R a → ¬ X a) : RepAll w R h' vs ds :=
  let ⟨as, r, hr, hd⟩ := x; ⟨as, readsAll_chg hk hX r fun a ha => hR a (hr a ha), hr, hd.chg hk fun a ha => hR a (hr a ha)⟩
theorem RepAll.notRec {w : World} {R : Addr → Prop} {h : Heap} {vs : List Value} {ds : List PyData} (x : RepAll w R h vs ds) : RepAll w (fun a => R a ∧ ¬ IsRec h a) h vs ds :=
  let ⟨as, r, hr, hd⟩ := x; ⟨as, r, fun a ha => ⟨hr a ha, fun ⟨o, vs, e, q⟩ => by obtain ⟨o', e', hn⟩ := readsAll_notRec r a ha; rw [e] at e'; cases e'; exact hn vs q⟩, hd⟩
theorem RepAll.snoc {w : World} {R : Addr → Prop} {h : Heap} {vs : List Value} {ds : List PyData} {v : Value} {d : PyData} (x : RepAll w R h vs ds) (y : Rep w R h v d) : RepAll w R h (vs ++ [v]) (ds ++ [d]) := x.append (.cons y .nil)

theorem comp_core {T : St} {n : Nat} {env : Env} {Γ Γv : Gm} {elt iter : PySem.Expr} {x : Str} {px pos pos' : Pos} {ifs : List PySem.Expr} {scope : Scope} {items : List PyData} {fl : Fl} {f : PyData → PyData} {p : PyData → Bool} (hi : Itr T n env Γ iter items fl) (hc : CompScope scope env x)
    (hv : ∀ q ∈ Γv, q ∈ Γ ∧ scope.names.lookup q.1 = some .free) (hok : GmOk (x :: Γv.map (·.1))) (hz : items.length ≤ sizeLine)
    (htest : ∀ C cl d, d ∈ items → CTests T n (compEnvC scope cl C env) (compG x fl Γv d) ifs (p d)) (helt : ∀ C cl d, d ∈ items → p d = true → EvF T n (compEnvC scope cl C env) (compG x fl Γv d) elt (f d))
    {use : Option (Value → Sem Unit)} {A : Around} {reg : Fl → Addr → Prop} {s : Shared} {E : Value → Shared → Prop} {Q : Value → Shared → Prop} (hA : Amb n A) (R : Rd T env reg Γ s)
    (h : ∀ D C s', Kp T.N s s' → D ≠ C → s.heap.get? D = none → s.heap.get? C = none → (∃ m, s'.heap.Ns C m) → (∃ ys k, s'.heap.get? D = some { cls := .type "list", data := .seq (List.toArray ys) k } ∧ RepAll T.w (fun a => reg .c a ∧ a ≠ C ∧ a ≠ D) s'.heap ys ((items.filter p).map f)) →
      compPost T.M A E use Q (.ref D) C (.ok .next) s') :
    wpAny T.M A (comprehension (.ListComp elt [⟨.Name x px, iter, ifs, 0⟩] scope pos) scope env pos' (newList []) false (eval iter env) use) Q E s := by
  obtain ⟨cl, hcl, hcl1, hcl2⟩ := closure_ok (env := env) (scope := scope) fun y hy => R.eok.cells y (hc.free (y, .free) hy rfl)
  refine wpAny_comprehension_free rfl hi.hs hcl hc.kind hc.names (hi.run hA R fun I s₂ fp wr P St k₂ W hst hwr hfp hP => ?_)
  refine wpAny_newObj_type (wpAny_newFunctionEnv hc.ncell (by intro y hy; simp at hy) (fun h₁ hns₁ hsb₁ => ?_) hc.kind)
  dsimp only at hns₁ hsb₁ ⊢
  generalize hH2 : s₂.heap.push { cls := .type "list", dict := none, data := .seq ([] : List Value).toArray } = H2 at hns₁ hsb₁ ⊢
  generalize hDe : s₂.heap.objs.size = D at *
  have hC : H2.objs.size = D + 1 := by rw [← hH2, Heap.size_push, hDe]
  generalize hCe : H2.objs.size = C at *
  have hDC : D ≠ C := by omega
  have freshD : s₂.heap.get? D = none := Heap.get?_none_of_le (by omega)
  have freshC : s₂.heap.get? C = none := Heap.get?_none_of_le (by omega)
  have old : ∀ b o, s₂.heap.get? b = some o → h₁.get? b = some o := fun b o e => by
    have hb := Heap.lt_size e
    exact hsb₁.extBut b o (fun q => absurd hb (by rw [show b = C from q, hC, hDe]; exact Nat.not_lt.mpr (Nat.le_succ _))) (Heap.get?_push_of_some _ (hH2 ▸ Heap.get?_push_of_some _ e))
  have hacc : h₁.get? D = some { cls := .type "list", data := .seq (List.toArray ([] : List Value)) 0 } := hsb₁.extBut _ _ hDC (Heap.get?_push_of_some _ (by rw [← hH2, ← hDe]; exact Heap.get?_push_size _ rfl))
  have hst₁ : St 0 h₁ := W.walks.frame _ _ _ hst fun b _ o e => old b o e
  have wrNC : ∀ b ∈ wr, b ≠ C ∧ b ≠ D := fun b hb => by
    obtain ⟨o, vs, e, _⟩ := W.rcd 0 _ hst b hb
    exact ⟨fun q => (by rw [q, freshC] at e; cases e), fun q => (by rw [q, freshD] at e; cases e)⟩
  have fpNC : ∀ b ∈ fp, b ≠ C ∧ b ≠ D := fun b hb => by
    obtain ⟨o, e, _⟩ := W.nf 0 _ hst b hb
    exact ⟨fun q => (by rw [q, freshC] at e; cases e), fun q => (by rw [q, freshD] at e; cases e)⟩
  have hkd0 : ((compEnvC scope cl C env).scope.kind == .class || ((compEnvC scope cl C env).scope.kind == .module && (compEnvC scope cl C env).locals != (compEnvC scope cl C env).globals)) = false := by
    have hkd : (compEnvC scope cl C env).scope.kind = .function := hc.kind
    rw [hkd]; rfl
  have sC : s.heap.get? C = none := k₂.h.none freshC
  have sD : s.heap.get? D = none := k₂.h.none freshD
  have ntW : ∀ i hh, St i hh → ∀ z, z ∈ wr → NotTup hh z := fun i hh st z hz => isRec_notTup (W.rcd i hh st z hz)
  have loop : ∀ s₃ : Shared, s₃ = { s₂ with heap := h₁, toks := s₂.toks + ([] : List (Str × Value)).length } →
      codeAny T.M A (.compLoop (.ListComp elt [⟨.Name x px, iter, ifs, 0⟩] scope pos) 0 (.ref I) (.ref D) (compEnvC scope cl C env)) (compPost T.M A E use Q (.ref D) C) s₃ := by
    rintro s₃ rfl
    refine codeAny_compLoop_tests (fun k s' => ∃ i ys kk m, k = items.length + 1 - i ∧ i ≤ items.length ∧ Kp T.N s s' ∧ ChgH T.N (· ∈ wr) s₂.heap s'.heap ∧ St i s'.heap ∧ s'.heap.Ns C m ∧ s'.heap.get? D = some { cls := .type "list", data := .seq (List.toArray ys) kk } ∧
      RepAll T.w (fun a => reg .c a ∧ a ≠ C ∧ a ≠ D) s'.heap ys (((items.take i).filter p).map f)) (fun k s' hI => ?_) (items.length + 1)
      ⟨0, [], 0, _, by omega, Nat.zero_le _, k₂.trans (.mk (.of old)), .of_kp (.of old), hst₁, hns₁, hacc, by simpa using RepAll.nil⟩
    obtain ⟨i, ys, kk, m, rfl, hile, kp, chg, hsti, hns, hDl, hall⟩ := hI
    by_cases hlt : i < items.length
    · refine W.walks.item i s' _ _ hlt hsti fun v h' tk hPv hst' hk' => ?_
      have hns' : h'.Ns C m := hns.at' fun o e => hk' C o (fun hb => (wrNC C hb).1 rfl) e
      refine wpAny_assign_Name (wpAny_storeName_local (lookup_relabel_local hc.var) hns' (fun h₂ hns₂ hs₂ => ?_) hkd0)
      have hs₂ : Heap.SameBut C h' h₂ := hs₂
      have chgW : ChgH T.N (· ∈ wr) s'.heap h' := fun b o e hb => ⟨o.slots, hk' b o hb e, fun _ => rfl⟩
      have kp₃ : Kp T.N s { s' with heap := h₂, toks := tk + 1 } := by
        obtain ⟨hh, tk', rfl, kph⟩ := kp
        refine ⟨h₂, tk + 1, rfl, fun b o e => ?_⟩
        obtain ⟨sl, e1, f1⟩ := kph b o e
        exact ⟨sl, (hs₂.2 b fun q => by rw [show b = C from q, sC] at e; cases e).trans (hk' b _ (fun hb => by rw [hwr b hb] at e; cases e) e1), f1⟩
      have chg₃ : ChgH T.N (· ∈ wr) s₂.heap h₂ := (chg.trans chgW fun b o _ hb => hb).trans (ChgH.of_but hs₂) fun b o e hb => absurd e (by rw [hb, freshC]; simp)
      have hst₂ : St (i + 1) h₂ := W.walks.frame _ _ _ hst' fun b hb o e => (hs₂.2 b (fpNC b hb).1).trans e
      obtain ⟨d, hd, hrep⟩ := hP i v hlt hPv
      have hmem : d ∈ items := List.mem_of_getElem? hd
      have hDl₂ : h₂.get? D = some { cls := .type "list", data := .seq (List.toArray ys) kk } := (hs₂.2 D hDC).trans (hk' D _ (fun hb => (wrNC D hb).2 rfl) hDl)
      have ntC : NotTup h' C := fun o vs' n' e _ hd' => by obtain ⟨o', _, _, ho, hdd, _⟩ := hns'; rw [ho] at e; cases e; rw [hdd] at hd'; cases hd'
      have hall₂ : RepAll T.w (fun a => reg .c a ∧ a ≠ C ∧ a ≠ D) h₂ ys (((items.take i).filter p).map f) := by
        have h1 := (RepAll.chg (RepAll.notRec hall) chgW (ntW _ _ hsti) fun a ha hx => ha.2 (W.rcd _ _ hsti a hx)).mono fun a ha => ha.1
        exact RepAll.chg h1 (ChgH.of_but (N := T.N) hs₂) (fun z hz => by rw [show z = C from hz]; exact ntC) fun a ha => ha.2.1
      have R₃ : Rd T (compEnvC scope cl C env) (fun fl a => reg fl a ∧ a ≠ C ∧ a ≠ D) (compG x fl Γv d) { s' with heap := h₂, toks := tk + 1 } := by
        refine ⟨⟨hc.kind, R.eok.g, R.eok.b, fun y hy => hcl2 y (relabel_cell hc.ncell hy)⟩, hok, fun y v' fl' hm => ?_, ⟨fun fl' a e => ⟨(R.regs.kp kp₃.h).fresh fl' a e, fun q => ?_, fun q => ?_⟩, fun a ha => ⟨R.regs.cb a ha.1, ha.2⟩, fun a ha => ⟨R.regs.bo a ha.1, ha.2⟩⟩, R.wd.kp kp₃.h⟩
        · rcases List.mem_cons.mp hm with e | hm
          · cases e
            refine ⟨v, .inl ⟨lookup_relabel_local hc.var, _, hns₂, by simp⟩, ?_⟩
            have h1 : Rep T.w (fun a => reg fl a ∧ a ≠ C ∧ a ≠ D) h₂ v d := (Rep.chg (Rep.notRec (Rep.there hrep)) chg₃ (ntW _ _ hst) fun a ha hx => ha.2 (W.rcd _ _ hst a hx)).mono fun a ha => ⟨ha.1.1, fun q => ha.1.2 (q ▸ freshC), fun q => ha.1.2 (q ▸ freshD)⟩
            unfold itemFl
            split
            · rename_i hs; exact Rep.still h1 hs
            · exact h1
          · obtain ⟨hg, hfree⟩ := hv _ hm
            obtain ⟨val, hn, hr⟩ := R.names y v' fl' hg
            have hkc : env.kindOf y = some .cell := hc.free (y, .free) (mem_of_lookup hfree) rfl
            refine ⟨val, .inr ⟨relabel_free R.eok.kind hfree hkc, ?_⟩, (RepV.mono (RepV.there hr) fun a ha => ⟨ha.1, fun q => ha.2 (q ▸ sC), fun q => ha.2 (q ▸ sD)⟩).keeps kp₃.h⟩
            rcases hn with ⟨hk1, _⟩ | ⟨_, c, hcc, hcell⟩
            · rw [hkc] at hk1; cases hk1
            · obtain ⟨c', hc'⟩ := hcl2 y (mem_of_lookup hfree)
              have := hcl1 y c' hc'
              rw [hcc] at this; cases this
              exact ⟨c, hc', kp₃.h.cell hcell⟩
        · rw [q] at e; obtain ⟨o, _, _, ho, _⟩ := hns₂; rw [show h₂.get? (compEnvC scope cl C env).locals = none from e] at ho; cases ho
        · rw [q] at e; rw [show h₂.get? D = none from e] at hDl₂; cases hDl₂
      refine (htest C cl d hmem).run hA R₃ fun s₄ k₄ => ?_
      have htk : (items.take (i + 1)).filter p = (items.take i).filter p ++ (if p d then [d] else []) := take_succ_filter p items i d hd
      cases hp : p d with
      | false =>
        simp only [Bool.false_eq_true, if_false]
        refine ⟨items.length + 1 - (i + 1), by omega, i + 1, ys, kk, _, rfl, hlt, kp₃.trans k₄, chg₃.trans (X := (· ∈ wr)) (ChgH.of_kp (X := fun _ => False) k₄.h) (fun _ _ _ hb => hb.elim), W.walks.frame _ _ _ hst₂ fun b hb o e => ?_, k₄.h.ns hns₂, k₄.h.get hDl₂ (by simp), ?_⟩
        · obtain ⟨o', e', hnf⟩ := W.nf _ _ hst₂ b hb
          rw [e] at e'; cases e'
          exact k₄.h.get e hnf
        · rw [htk, hp]; simpa using hall₂.keeps k₄.h
      | true =>
        simp only [if_true]
        refine (helt C cl d hmem hp).run hA (R₃.kp k₄) fun y s₅ k₅ r₅ => ?_
        have k₄₅ := k₄.trans k₅
        have hys : ys.length ≤ sizeLine := by
          have h1 := hall.length
          have h2 : ((items.take i).filter p).length ≤ (items.take i).length := List.length_filter_le _ _
          simp only [List.length_map, List.length_take] at h1 h2
          omega
        have hDl₅ := k₄₅.h.get hDl₂ (by simp)
        refine wpAny_list_append_plain (items := List.toArray ys) (hsz := by simpa using hys) ⟨kk, hDl₅⟩ fun h₆ hl₆ hs₆ => ?_
        obtain ⟨kk', hl₆⟩ := hl₆
        have hk₅ : ∀ b o, b ≠ D → s₅.heap.get? b = some o → h₆.get? b = some o := fun b o hb e => (hs₆.2 b hb).trans e
        have ntD : NotTup s₅.heap D := fun o vs' n' e hcls _ => by rw [hDl₅] at e; cases e; simp at hcls
        refine ⟨items.length + 1 - (i + 1), by omega, i + 1, ys ++ [y], kk', _, rfl, hlt, ?_, ?_, W.walks.frame _ _ _ hst₂ fun b hb o e => ?_, (k₄₅.h.ns hns₂).sameBut hs₆ (Ne.symm hDC), by simpa using hl₆, ?_⟩
        · obtain ⟨hh, tk', rfl, kph⟩ := kp₃.trans k₄₅
          refine ⟨h₆, tk', rfl, fun b o e => ?_⟩
          obtain ⟨sl, e1, f1⟩ := kph b o e
          exact ⟨sl, hk₅ b _ (fun q => by rw [q, sD] at e; cases e) e1, f1⟩
        · exact (chg₃.trans (X := (· ∈ wr)) (ChgH.of_kp (X := fun _ => False) k₄₅.h) (fun _ _ _ hb => hb.elim)).trans (ChgH.of_but hs₆) fun b o e hb => absurd e (by rw [hb, freshD]; simp)
        · obtain ⟨o', e', hnf⟩ := W.nf _ _ hst₂ b hb
          rw [e] at e'; cases e'
          exact hk₅ b o (fpNC b hb).2 (k₄₅.h.get e hnf)
        · rw [htk, hp]
          simp only [if_true, List.map_append, List.map_cons, List.map_nil]
          exact RepAll.chg ((hall₂.keeps k₄₅.h).snoc r₅.rep) (ChgH.of_but (N := T.N) hs₆) (fun z hz => by rw [show z = D from hz]; exact ntD) fun a ha => ha.2.2
    · have hi' : i = items.length := by omega
      subst hi'
      refine W.walks.done s' _ _ hsti fun h' tk hk' => ?_
      have chgW : ChgH T.N (· ∈ wr) s'.heap h' := fun b o e hb => ⟨o.slots, hk' b o hb e, fun _ => rfl⟩
      refine h D C _ ?_ hDC sD sC ⟨m, hns.at' fun o e => hk' C o (fun hb => (wrNC C hb).1 rfl) e⟩ ⟨ys, kk, hk' D _ (fun hb => (wrNC D hb).2 rfl) hDl, ?_⟩
      · obtain ⟨hh, tk', rfl, kph⟩ := kp
        refine ⟨h', tk, rfl, fun b o e => ?_⟩
        obtain ⟨sl, e1, f1⟩ := kph b o e
        exact ⟨sl, hk' b _ (fun hb => by rw [hwr b hb] at e; cases e) e1, f1⟩
      · have h1 := (RepAll.chg (RepAll.notRec hall) chgW (ntW _ _ hsti) fun a ha hx => ha.2 (W.rcd _ _ hsti a hx)).mono fun a ha => ha.1
        simpa using h1
  exact codeAny_compStart_list (loop _ rfl) (W.walks.self 0 _ _ _ hst₁ (loop _ rfl))
end Mine
end
section
open PySem PySem.Calls PyProof.Rows PySem.W
set_option linter.all false
namespace Mine

theorem ns_notTup {h : Heap} {C : Addr} {m : Str → Option Value} (hn : h.Ns C m) : NotTup h C := fun o vs n e _ hd => by
  obtain ⟨o', _, _, ho, hdd, _⟩ := hn
  rw [ho] at e; cases e; rw [hdd] at hd; cases hd

section
variable {T : St} {n : Nat} {env : Env} {Γ Γ' Γv : Gm} {elt iter : PySem.Expr} {x : Str} {px pos : Pos} {ifs : List PySem.Expr} {scope : Scope} {items : List PyData} {fl : Fl} {f : PyData → PyData} {p : PyData → Bool}
theorem Frm.but {N : Nat} {s₀ s : Shared} {m cm : Str → Option Value} {C : Addr} {h' : Heap} (F : Frm N s₀ env m cm s) (hs : Heap.SameBut C s.heap h') (h0 : s₀.heap.get? C = none) (hL : env.locals ≠ C) (hc : ∀ y c, env.cells.lookup y = some c → c ≠ C) :
    Frm N s₀ env m cm { s with heap := h' } := by
  refine ⟨?_, fun b o e => ?_, F.ns.sameBut hs hL, fun y c hy => (F.cell y c hy).sameBut hs (hc y c hy), F.newL, F.newC, F.apart⟩
  · obtain ⟨h, tk, rfl⟩ := F.same; exact ⟨h', tk, rfl⟩
  · obtain ⟨sl, e1, f1⟩ := F.keep b o e
    exact ⟨sl, (hs.2 b fun q => by rw [q, h0] at e; cases e).trans e1, f1⟩
end
section
variable {T : St} {s₀ s s₁ : Shared} {d₀ : Addr → Prop} {env : Env} {own own' : Own} {Γ Γ' : Gm}
theorem SI.storeC {C : Addr} {A : Around} {E : Value → Shared → Prop} {Q : Unit → Shared → Prop} {x : Str} {val : Value} {sl : Slot} (S : SI T s₀ d₀ env own Γ s) (k : Kp T.N s s₁) (hp : Put Γ x sl Γ') (hk : env.kindOf x = some .local ∨ env.kindOf x = some .cell)
    (ho : ∀ y, y ≠ x → own' y = own y) (hnew : ∀ a, own' x = some a → s.heap.get? a = none ∧ ∃ o, s₁.heap.get? a = some o ∧ (o.dict = none ∧ ∀ vs, o.data ≠ .fields vs) ∧ o.cls ≠ .type "tuple" ∧ o.cls ≠ .type "frame")
    (sC : s.heap.get? C = none) (hCn : NotTup s₁.heap C) (hCo : ∀ a, own' x = some a → a ≠ C) (hslb : ∀ v, sl ≠ some (v, .b)) (hslc : ∀ v, sl = some (v, .c) → RepV T.w (fun a => regOf d₀ env own' .c a ∧ a ≠ C) s₁.heap val v)
    (hslo : ∀ v, sl = some (v, .o) → ∃ d a as, v = .d d ∧ val = .ref a ∧ own' x = some a ∧ Reads s₁.heap val d (a :: as) ∧ (∀ b ∈ as, regOf d₀ env own' .c b ∧ b ≠ C) ∧ Dok T.w s₁.heap (a :: as))
    (h : ∀ s', (∀ m, s₁.heap.Ns C m → s'.heap.Ns C m) → (∀ h'', Heap.SameBut C s'.heap h'' → SI T s₀ d₀ env own' Γ' { s' with heap := h'' } ∧ Pres T.N env own s { s' with heap := h'' } ∧ OwnLe own own' s) → Q () s') : wpAny T.M A (storeName env x val) Q E s₁ := by
  have S₁ := S.kp k
  obtain ⟨m, cm, F, hnm⟩ := S.frm
  refine store_wp (F.kp k) S.eok S.cok hk fun s' m' cm' F' hlx hly hsame hchg₀ halive => ?_
  have fC := S.fresh sC
  refine h s' (fun m hm => ?_) fun h'' hbut => ?_
  · obtain ⟨o, es, ep, ho', r⟩ := hm
    obtain ⟨o', e, _, _, ed⟩ := hchg₀.gets ho' (by rintro (q | ⟨y, q⟩); exact fC.2.1 q; exact fC.2.2.1 y C q rfl)
    exact ⟨o', es, ep, e, ed.trans r.1, r.2⟩
  have hchg : ChgH T.N (fun b => (b = env.locals ∨ ∃ y, env.cells.lookup y = some b) ∨ b = C) s₁.heap h'' := (hchg₀.mono fun b hb => .inl hb).trans (ChgH.of_but hbut) fun b o _ hb => .inr hb
  have hle : ∀ a, s.heap.get? a ≠ none → (∀ y, own y ≠ some a) → ∀ y, own' y ≠ some a := fun a ha hy y q => by
    by_cases hyx : y = x
    · subst hyx; exact ha (hnew a q).1
    · rw [ho y hyx] at q; exact hy y q
  have chg : ChgH T.N (fun b => b = env.locals ∨ ∃ y, env.cells.lookup y = some b) s.heap h'' := (ChgH.of_kp k.h).trans hchg fun b o e hb => hb.elim id fun q => absurd e (by rw [q, sC]; simp)
  have ntup : ∀ z, ((z = env.locals ∨ ∃ y, env.cells.lookup y = some z) ∨ z = C) → NotTup s₁.heap z := fun z hz => hz.elim (fun hz => May.notTup S₁ z (hz.elim .inl fun q => .inr (.inl q))) fun q => q ▸ hCn
  have regUp : ∀ (fl : Fl) (a : Addr), (regOf d₀ env own fl a ∧ s.heap.get? a ≠ none) → regOf d₀ env own' fl a
    | .o, _, _ => trivial
    | .b, a, r => ⟨r.1.1, r.1.2.1, hle a r.2 r.1.2.2⟩
    | .c, a, r => ⟨r.1.1, r.1.2.1, r.1.2.2.1, hle a r.2 r.1.2.2.2⟩
  have notX : ∀ (fl : Fl), fl ≠ .o → ∀ a, (regOf d₀ env own' fl a ∧ a ≠ C) → ¬ ((a = env.locals ∨ ∃ y, env.cells.lookup y = some a) ∨ a = C) := fun fl hfl a ⟨hr, hac⟩ hor => by
    refine hor.elim ?_ hac
    cases fl with
    | o => exact absurd rfl hfl
    | b => rintro (q | ⟨y, q⟩); exact hr.1 q; exact hr.2.1 y a q rfl
    | c => rintro (q | ⟨y, q⟩); exact hr.2.1 q; exact hr.2.2.1 y a q rfl
  have owned : ∀ z a, own' z = some a → a ≠ env.locals ∧ (∀ y c, env.cells.lookup y = some c → a ≠ c) ∧ s₀.heap.get? a = none ∧ ∃ o, s₁.heap.get? a = some o ∧ (o.dict = none ∧ ∀ vs, o.data ≠ .fields vs) ∧ o.cls ≠ .type "tuple" ∧ o.cls ≠ .type "frame" := fun z a q => by
    by_cases hz : z = x
    · subst hz
      obtain ⟨e1, e2⟩ := hnew a q
      have := S.fresh e1
      exact ⟨this.2.1, this.2.2.1, F.keep.none e1, e2⟩
    · rw [ho z hz] at q
      obtain ⟨h1, h2, h3, h4⟩ := S₁.ownNew z a q
      exact ⟨h2, h3, h1, h4⟩
  have ownC : ∀ z a, own' z = some a → a ≠ C := fun z a q => by
    by_cases hz : z = x
    · subst hz; exact hCo a q
    · rw [ho z hz] at q
      obtain ⟨_, _, _, o, h4, _⟩ := S.ownNew z a q
      intro e; rw [e, sC] at h4; cases h4
  have sNC : ∀ a, s.heap.get? a ≠ none → a ≠ C := fun a ha q => ha (q ▸ sC)
  have F'' : Frm T.N s₀ env m' cm' { s' with heap := h'' } := F'.but hbut (F.keep.none sC) (Ne.symm fC.2.1) fun y c hc q => fC.2.2.1 y c hc q.symm
  refine ⟨⟨S.eok, S.cok, by rw [hp.names]; exact S.ok, S.wd0, S.d0, fun z a q => ?_, fun z y a q r => ?_, m', cm', F'', fun y v fl hm => ?_⟩, ⟨?_, ?_, fun b e => ?_⟩, fun y a q => ?_⟩
  · obtain ⟨h1, h2, h3, o, h4, h5, h6, h7⟩ := owned z a q
    exact ⟨h3, h1, h2, o, hchg.plain h4 (fun hx => hx.elim (fun hx => hx.elim (fun e => h1 e) fun ⟨y, e⟩ => h2 y a e rfl) (ownC z a q)) h7, h5, h6, h7⟩
  · by_cases hz : z = x <;> by_cases hy : y = x
    · rw [hz, hy]
    · subst hz
      rw [ho y hy] at r
      obtain ⟨_, _, _, o, h4, _⟩ := S.ownNew y a r
      rw [(hnew a q).1] at h4; cases h4
    · subst hy
      rw [ho z hz] at q
      obtain ⟨_, _, _, o, h4, _⟩ := S.ownNew z a q
      rw [(hnew a r).1] at h4; cases h4
    · rw [ho z hz] at q; rw [ho y hy] at r; exact S.ownInj z y a q r
  · rcases hp.cases S.ok.nodup y _ hm with ⟨rfl, e⟩ | ⟨hyx, hm⟩
    · refine ⟨val, hlx, ?_⟩
      cases fl with
      | c => exact (RepV.chg (hslc v e.symm) hchg ntup (notX .c (by simp))).mono fun a ha => ha.1
      | b => exact absurd e.symm (hslb v)
      | o =>
        obtain ⟨d, a, as, e1, e2, e3, e4, e5, e6⟩ := hslo v e.symm
        have hna : ∀ b ∈ a :: as, ¬ ((b = env.locals ∨ ∃ y, env.cells.lookup y = some b) ∨ b = C) := fun b hb => by
          rcases List.mem_cons.mp hb with rfl | hb
          · have := owned _ b e3
            rintro ((q | ⟨y, q⟩) | q); exact this.1 q; exact this.2.1 y b q rfl; exact hCo b e3 q
          · exact notX .c (by simp) b (e5 b hb)
        exact ⟨d, a, as, e1, e2, e3, reads_chg hchg ntup e4 hna, fun b hb => (e5 b hb).1, e6.chg hchg hna⟩
    · obtain ⟨val', l, r⟩ := hnm y v fl hm
      refine ⟨val', hly y val' hyx l, ?_⟩
      cases fl with
      | c => exact (RepV.chg (((RepV.there r).mono fun a ha => ⟨regUp .c a ha, sNC a ha.2⟩).keeps k.h) hchg ntup (notX .c (by simp))).mono fun a ha => ha.1
      | b => exact (RepV.chg (((RepV.there r).mono fun a ha => ⟨regUp .b a ha, sNC a ha.2⟩).keeps k.h) hchg ntup (notX .b (by simp))).mono fun a ha => ha.1
      | o =>
        obtain ⟨d, a, as, e1, e2, e3, e4, e5, e6⟩ := r
        have e5' : ∀ b ∈ as, regOf d₀ env own' .c b := fun b hb => regUp .c b ⟨e5 b hb, by obtain ⟨o, e, _⟩ := e6 b (.tail _ hb); rw [e]; simp⟩
        have e5c : ∀ b ∈ as, b ≠ C := fun b hb => sNC b (by obtain ⟨o, e, _⟩ := e6 b (.tail _ hb); rw [e]; simp)
        have hna : ∀ b ∈ a :: as, ¬ ((b = env.locals ∨ ∃ y, env.cells.lookup y = some b) ∨ b = C) := fun b hb => by
          rcases List.mem_cons.mp hb with rfl | hb
          · have := owned y b (by rw [ho y hyx]; exact e3)
            rintro ((q | ⟨y, q⟩) | q); exact this.1 q; exact this.2.1 y b q rfl; exact ownC y b (by rw [ho y hyx]; exact e3) q
          · exact notX .c (by simp) b ⟨e5' b hb, e5c b hb⟩
        exact ⟨d, a, as, e1, e2, by rw [ho y hyx]; exact e3, reads_chg hchg ntup (reads_kp k.h e4) hna, e5', (e6.keeps k.h).chg hchg hna⟩
  · obtain ⟨h₁, tk, rfl⟩ := hsame
    obtain ⟨h₂, tk₂, rfl, _⟩ := k
    exact ⟨_, _, rfl⟩
  · exact chg.mono fun b hb => hb.elim .inl fun q => .inr (.inl q)
  · by_cases hb : b = C
    · rw [hb]; exact sC
    · exact k.h.none (halive b ((hbut.2 b hb).symm.trans e))
  · by_cases hyx : y = x
    · subst hyx; exact .inr (hnew a q).1
    · rw [ho y hyx] at q; exact .inl ⟨y, q⟩
end

section
variable {T : St} {n : Nat} {env : Env} {Γ Γ' Γv : Gm} {elt iter : PySem.Expr} {x y : Str} {px py pos spos : Pos} {ifs : List PySem.Expr} {scope : Scope} {items : List PyData} {fl : Fl} {f : PyData → PyData} {p : PyData → Bool} {Q : Fw → Gm → Prop}
theorem Ex1.assignComp {fl' : Fl} (hfl : fl' = .c ∨ fl' = .o) (hi : Itr T n env Γ iter items fl) (hc : CompScope scope env x)
    (hv : ∀ q ∈ Γv, q ∈ Γ ∧ scope.names.lookup q.1 = some .free) (hok : GmOk (x :: Γv.map (·.1))) (hz : items.length ≤ sizeLine)
    (htest : ∀ C cl d, d ∈ items → CTests T n (compEnvC scope cl C env) (compG x fl Γv d) ifs (p d)) (helt : ∀ C cl d, d ∈ items → p d = true → EvF T n (compEnvC scope cl C env) (compG x fl Γv d) elt (f d))
    (hp : Put Γ y (some (.d (.list ((items.filter p).map f)), fl')) Γ') (hk : env.kindOf y = some .local ∨ env.kindOf y = some .cell) (hsw : swapsWith (.ListComp elt [⟨.Name x px, iter, ifs, 0⟩] scope pos) (some (.Name y py)) spos.line env = pure true) (hq : Q .next Γ') :
    Ex1 T n env Γ (.Assign [.Name y py] (.ListComp elt [⟨.Name x px, iter, ifs, 0⟩] scope pos) spos) Q := ⟨fun {A s₀ d₀ own s E QQ} hA S h hx => by
  have hmain : ∀ D C s', Kp T.N s s' → D ≠ C → s.heap.get? D = none → s.heap.get? C = none → (∃ m, s'.heap.Ns C m) → (∃ ys k, s'.heap.get? D = some { cls := .type "list", data := .seq (List.toArray ys) k } ∧ RepAll T.w (fun a => regOf d₀ env own .c a ∧ a ≠ C ∧ a ≠ D) s'.heap ys ((items.filter p).map f)) →
      compPost T.M A E (some (PySem.assign (PySem.Expr.Name y py) env)) (fun _ s' => QQ .next s') (.ref D) C (.ok .next) s' := by
    intro D C s' k hDC sD sC hns hD
    obtain ⟨m, hns⟩ := hns
    obtain ⟨ys, kk, hDl, hall⟩ := hD
    show wpAny _ A (PySem.assign (PySem.Expr.Name y py) env (.ref D)) _ _ _
    obtain ⟨as, r, hr, hd⟩ := hall
    have hDok : Dok T.w s'.heap (D :: as) := fun b hb => by
      rcases List.mem_cons.mp hb with rfl | hb
      · exact ⟨_, hDl, fun es n q => by cases q⟩
      · exact hd b hb
    have hread : Reads s'.heap (.ref D) (.list ((items.filter p).map f)) (D :: as) := .list hDl rfl rfl (by simpa using r)
    have fin : ∀ own', (∀ z, z ≠ y → own' z = own z) → (own' y = none ∨ own' y = some D) → (∀ v, some (Vl.d (.list ((items.filter p).map f)), fl') ≠ some (v, .b)) →
        (∀ v, some (Vl.d (.list ((items.filter p).map f)), fl') = some (v, .c) → RepV T.w (fun a => regOf d₀ env own' .c a ∧ a ≠ C) s'.heap (.ref D) v) →
        (∀ v, some (Vl.d (.list ((items.filter p).map f)), fl') = some (v, .o) → ∃ d a as, v = .d d ∧ Value.ref D = .ref a ∧ own' y = some a ∧ Reads s'.heap (.ref D) d (a :: as) ∧ (∀ b ∈ as, regOf d₀ env own' .c b ∧ b ≠ C) ∧ Dok T.w s'.heap (a :: as)) →
        wpAny T.M A (PySem.assign (.Name y py) env (.ref D)) (fun _ s'' => ∃ m, s''.heap.Ns C m ∧ ∀ h', Heap.SameBut C s''.heap h' → QQ .next { s'' with heap := h' }) E s' := fun own' ho1 ho2 hb1 hc1 hd1 => by
      refine wpAny_assign_Name (S.storeC (C := C) (own' := own') k hp hk ho1 (fun a e => ?_) sC (ns_notTup hns) (fun a e => ?_) hb1 hc1 hd1 fun s'' hns' hfin => ⟨m, hns' m hns, fun h' hs' => ?_⟩)
      · rcases ho2 with q | q <;> rw [q] at e <;> cases e
        exact ⟨sD, _, hDl, ⟨rfl, fun vs q => by cases q⟩, by simp, by simp⟩
      · rcases ho2 with q | q <;> rw [q] at e <;> cases e
        exact hDC
      · obtain ⟨S', p', o'⟩ := hfin h' hs'
        exact h _ .next _ Γ' own' S' p' o' trivial hq
    rcases hfl with rfl | rfl
    · refine fin (fun z => if z = y then none else own z) (fun z hz => by simp [hz]) (.inl (by simp)) (fun v e => by cases e) (fun v e => ?_) fun v e => by cases e
      cases e
      have up : ∀ a, regOf d₀ env own .c a → regOf d₀ env (fun z => if z = y then none else own z) .c a := regOf_le (fun a ha z => by by_cases hz : z = y <;> simp [hz, ha z]) .c
      refine ⟨D :: as, hread, fun b hb => ?_, hDok⟩
      rcases List.mem_cons.mp hb with rfl | hb
      · exact ⟨up _ (S.fresh sD), hDC⟩
      · exact ⟨up _ (hr b hb).1, (hr b hb).2.1⟩
    · refine fin (fun z => if z = y then some D else own z) (fun z hz => by simp [hz]) (.inr (by simp)) (fun v e => by cases e) (fun v e => by cases e) fun v e => ?_
      cases e
      refine ⟨_, D, as, rfl, rfl, by simp, hread, fun b hb => ⟨⟨(hr b hb).1.1, (hr b hb).1.2.1, (hr b hb).1.2.2.1, fun z q => ?_⟩, (hr b hb).2.1⟩, hDok⟩
      by_cases hz : z = y
      · simp [hz] at q; exact (hr b hb).2.2 q.symm
      · simp [hz] at q; exact (hr b hb).1.2.2.2 z q
  rw [exec_Assign_Name_used _ _ _ _ hsw]
  refine wpAny_bind (wpAny_standAt (wpAny_bind ?_))
  show wpAny _ A (do let _ ← comprehension (.ListComp elt [⟨.Name x px, iter, ifs, 0⟩] scope pos) scope env (firstIterPos [⟨.Name x px, iter, ifs, 0⟩] pos) (newList []) false (eval iter env) (some (PySem.assign (PySem.Expr.Name y py) env))) _ _ s
  have core : wpAny T.M A (comprehension (.ListComp elt [⟨.Name x px, iter, ifs, 0⟩] scope pos) scope env (firstIterPos [⟨.Name x px, iter, ifs, 0⟩] pos) (newList []) false (eval iter env) (some (PySem.assign (PySem.Expr.Name y py) env))) (fun _ s' => QQ .next s') E s := by
    refine comp_core hi hc hv hok hz htest helt hA S.rd fun D C s' k hDC sD sC hns hD => ?_
    exact hmain D C s' k hDC sD sC hns hD
  exact wpAny_bind (wpAny_mono core (fun _ s' hq' => wpAny_pure (wpAny_pure hq')) fun _ _ e => e)⟩
end
end Mine
end
section
open PySem PySem.Calls PyProof.Rows PySem.W
set_option linter.all false
namespace Mine

def mkS (l : List Nat) : Str := ⟨l.toArray⟩
theorem mkS_len (l : List Nat) : (mkS l).length = l.length := by simp [mkS, Str.length]
theorem mkS_app (a b : List Nat) : mkS a ++ mkS b = mkS (a ++ b) := by
  show Str.mk (a.toArray ++ b.toArray) = Str.mk (a ++ b).toArray
  simp
theorem mkS_inj {a b : List Nat} : mkS a = mkS b ↔ a = b := ⟨fun h => by have := congrArg (fun x : Str => x.cps.toList) h; exact this, fun h => by rw [h]⟩

section
variable {T : St} {n : Nat} {env : Env} {Γ : Gm} {f₁ f₂ : Fl}
theorem EvF.kS {x : Str} {k : Nat} {pos : Pos} : EvF T n env Γ (.Constant (.str x) k pos) (.str (mkS x.cps.toList)) := EvF.kStr
theorem EvF.globS {x : Str} {pos : Pos} {y : Str} {t : Tok} (hx : env.kindOf x = some .globalImplicit) (hg : T.mg x = some (.str y t)) (hd : (x == ("__debug__" : Str)) = false) : EvF T n env Γ (.Name x pos) (.str (mkS y.cps.toList)) := EvF.glob hx hg hd
theorem Bin.catS {a b : List Nat} (hz : a.length + b.length ≤ sizeLine) : Bin T n .Add (.d (.str (mkS a))) f₁ (.d (.str (mkS b))) f₂ (.str (mkS (a ++ b))) := by
  rw [← mkS_app]; exact Bin.addS (by rw [mkS_len, mkS_len]; exact hz)
theorem Bin.modP {a b : Int} (hb : 0 < b) : Bin T n .Mod (.d (.int a)) f₁ (.d (.int b)) f₂ (.int (a % b)) := by
  rw [← Int.fmod_eq_emod_of_nonneg a (by omega)]; exact Bin.modI (by omega)
theorem Bin.divP {a b : Int} (hb : 0 < b) (hs : b < 1073741824) : Bin T n .FloorDiv (.d (.int a)) f₁ (.d (.int b)) f₂ (.int (a / b)) := by
  rw [← Int.fdiv_eq_ediv_of_nonneg a (by omega)]; exact Bin.divI (by omega) (PyProof.noPylong_small (by omega))
theorem Bin.mulR {a b : Int} (h1 : -(2 ^ 64) < b) (h2 : b < 2 ^ 64) : Bin T n .Mult (.d (.int a)) f₁ (.d (.int b)) f₂ (.int (a * b)) := Bin.mulI (IntMulOk.of_right (intBits_le_64 h1 h2))
theorem Cmp.eqL {a b : List Nat} : Cmp T n .Eq (.d (.str (mkS a))) (.d (.str (mkS b))) (decide (a = b)) := by
  have : decide (a = b) = decide (mkS a = mkS b) := decide_eq_decide.mpr mkS_inj.symm
  rw [this]; exact Cmp.eqS
theorem Cmp.neL {a b : List Nat} : Cmp T n .NotEq (.d (.str (mkS a))) (.d (.str (mkS b))) (!decide (a = b)) := by
  have : (!decide (a = b)) = decide (mkS a ≠ mkS b) := by
    rw [Bool.eq_iff_iff]
    simp [mkS_inj]
  rw [this]; exact Cmp.neS
theorem contains_one (l : List Nat) (c : Nat) : Txt.contains (mkS l) (mkS [c]) = decide (c ∈ l) := StrLaws.found_one (mkS l) c
theorem Cmp.ninL {a b : List Nat} {c : Nat} (h : a = [c]) : Cmp T n .NotIn (.d (.str (mkS a))) (.d (.str (mkS b))) (!decide (c ∈ b)) := by
  rw [h, ← contains_one]; exact Cmp.ninS
theorem Sub.strL {fl : Fl} {l : List Nat} {i : Int} {c : Nat} (h0 : 0 ≤ i) (hc : l[i.toNat]? = some c) (hz : l.length ≤ sizeLine) : Sub T n (.d (.str (mkS l))) fl (.d (.int i)) (.str (mkS [c])) .c := Sub.str h0 hc (by rw [mkS_len]; exact hz)

structure Opt (T : St) (n : Nat) (env : Env) (Γ : Gm) (e : Option PySem.Expr) (i : Option Int) : Prop where
  run : ∀ {A : Around} {reg : Fl → Addr → Prop} {s : Shared} {E : Value → Shared → Prop} {Q : Value → Shared → Prop}, Amb n A → Rd T env reg Γ s → (∀ v s', Kp T.N s s' → IsPart v i → Q v s') → wpAny T.M A (valueOrNone (evalOpt e env)) Q E s
theorem Opt.some {e : PySem.Expr} {i : Int} {fl : Fl} (x : Ev T n env Γ e (.d (.int i)) fl) : Opt T n env Γ (some e) (some i) := ⟨fun hA R h => x.run hA R fun v s' k r => by
  obtain ⟨t, rfl⟩ := Rep.int_inv r
  exact h _ _ k (.int i t)⟩
theorem part_tok {v : Value} {i : Option Int} (h : IsPart v i) : ∃ o : Option (Int × Tok), partValue o = v ∧ o.map (·.1) = i := by
  cases h with
  | none => exact ⟨Option.none, rfl, rfl⟩
  | int i t => exact ⟨Option.some (i, t), rfl, rfl⟩
theorem EvF.cutS {e : PySem.Expr} {l u : Option PySem.Expr} {p pos : Pos} {x : List Nat} {fl : Fl} {lo hi : Option Int} (he : Ev T n env Γ e (.d (.str (mkS x))) fl) (hl : Opt T n env Γ l lo) (hu : Opt T n env Γ u hi) (hz : x.length ≤ sizeLine) :
    EvF T n env Γ (.Subscript e (.Slice l u none p) pos) (.str (mkS (pyCut lo hi x))) := ⟨fun {A reg s E Q} hA R h => by
  refine Subscript_ (he.run hA R fun ov s₁ k₁ r₁ => ?_)
  obtain ⟨t, rfl⟩ := Rep.str_inv r₁
  rw [arm_eval_Slice]
  refine wpAny_bind (hl.run hA (R.kp k₁) fun vl s₂ k₂ pl => wpAny_bind (wpAny_holding (hu.run hA ((R.kp k₁).kp k₂) fun vu s₃ k₃ pu => wpAny_bind (wpAny_holding (wpAny_pure ?_)))))
  refine wpAny_newObj_type ?_
  obtain ⟨ol, e1, e2⟩ := part_tok pl
  obtain ⟨ou, e3, e4⟩ := part_tok pu
  refine tail_any (typeIs_str _ _ _) F.slot_str_getitem.lookup (wpAny_getItem_str_slice (l := ol) (u := ou) (st := Option.none) ⟨_, Heap.get?_push_size _ rfl, rfl, by rw [e1, e3]; rfl⟩ rfl ?_) rfl
  refine post_val_or_str ?_
  have hs := slice_cut (mkS x) lo hi
  rw [← e2, ← e4] at hs
  have hs' : (if ((1 : Int) == 1 && (slicePicked (mkS x) ol ou Option.none).length == (mkS x).length) = true then mkS x else ⟨((slicePicked (mkS x) ol ou Option.none).filterMap ((mkS x).cps[·]?)).toArray⟩) = mkS (pyCut lo hi x) := by rw [← e2, ← e4]; exact hs
  rw [show ((Option.map (fun x : Int × Tok => x.1) (Option.none : Option (Int × Tok))).getD 1 == 1) = ((1 : Int) == 1) from rfl, hs']
  refine ⟨?_, fun t' k => h _ _ ((k₁.trans (k₂.trans k₃)).trans (.mk ((KpH.refl _).push _))) (repF_str ..)⟩
  rw [mkS_len]
  unfold pyCut
  simp only [List.length_take, List.length_drop]
  omega⟩

theorem pyCut_le {α : Type} (lo hi : Option Int) (l : List α) : (pyCut lo hi l).length ≤ l.length := by
  unfold pyCut; simp only [List.length_take, List.length_drop]; omega
theorem RepAll.cut {w : World} {R : Addr → Prop} {h : Heap} {vs : List Value} {ds : List PyData} (x : RepAll w R h vs ds) (lo hi : Option Int) : RepAll w R h (pyCut lo hi vs) (pyCut lo hi ds) := by
  unfold pyCut
  rw [x.length]
  exact (x.drop _).take _
theorem EvF.cutL {e : PySem.Expr} {l u : Option PySem.Expr} {p pos : Pos} {xs : List PyData} {fl : Fl} {lo hi : Option Int} (he : Ev T n env Γ e (.d (.list xs)) fl) (hl : Opt T n env Γ l lo) (hu : Opt T n env Γ u hi) (hz : xs.length ≤ sizeLine) (hc : fl = .c ∨ stillAll xs = true) :
    EvF T n env Γ (.Subscript e (.Slice l u none p) pos) (.list (pyCut lo hi xs)) := ⟨fun {A reg s E Q} hA R h => by
  refine Subscript_ (he.run hA R fun ov s₁ k₁ r₁ => ?_)
  obtain ⟨a, vs, rfl, hR, hlist, hall⟩ := Rep.list_inv r₁
  have hall : RepAll T.w (reg .c) s₁.heap vs xs := by
    rcases hc with rfl | hc
    · exact hall
    · exact hall.still hc
  rw [arm_eval_Slice]
  refine wpAny_bind (hl.run hA (R.kp k₁) fun vl s₂ k₂ pl => wpAny_bind (wpAny_holding (hu.run hA ((R.kp k₁).kp k₂) fun vu s₃ k₃ pu => wpAny_bind (wpAny_holding (wpAny_pure ?_)))))
  have k₁₃ := k₁.trans (k₂.trans k₃)
  have hlist₃ := (k₂.trans k₃).h.list hlist
  refine wpAny_newObj_type ?_
  refine tail_any (Heap.IsList.typeIs (s := { s₃ with heap := s₃.heap.push { cls := .type "slice", data := .fields #[vl, vu, .none] } }) (hlist₃.push _)) list_getitem_lookup (wpAny_getItem_list_slice (hlist₃.push _) (Heap.IsSliceOf.new ..) pl pu .none (by simp) ?_ (by rw [List.size_toArray, hall.length]; exact hz)) rfl
  rw [slicePick_cut]
  have kp : KpH T.N s₁.heap (s₃.heap.push { cls := .type "slice", data := .fields #[vl, vu, .none] }) := (k₂.trans k₃).h.push _
  refine h _ _ (k₁₃.trans (.mk (((KpH.refl _).push _).push _))) (((repF_listP (s := { s₃ with heap := s₃.heap.push { cls := .type "slice", data := .fields #[vl, vu, .none] } }) (fun b hb => ((R.regs.kp k₁.h).kp kp).fresh .c b hb) ((hall.keeps kp).cut lo hi)).older kp).older k₁.h)⟩
theorem Bin.catL {xs ys : List PyData} (hz : xs.length + ys.length ≤ sizeLine) (h₁ : f₁ = .c ∨ stillAll xs = true) (h₂ : f₂ = .c ∨ stillAll ys = true) : Bin T n .Add (.d (.list xs)) f₁ (.d (.list ys)) f₂ (.list (xs ++ ys)) := ⟨fun {A reg s E Q a b} hA R W r₁ r₂ h => by
  obtain ⟨a, vs, rfl, _, hl₁, hall₁⟩ := Rep.list_inv r₁
  obtain ⟨b, us, rfl, _, hl₂, hall₂⟩ := Rep.list_inv r₂
  have hall₁ : RepAll T.w (reg .c) s.heap vs xs := by
    rcases h₁ with rfl | hc
    · exact hall₁
    · exact hall₁.still hc
  have hall₂ : RepAll T.w (reg .c) s.heap us ys := by
    rcases h₂ with rfl | hc
    · exact hall₂
    · exact hall₂.still hc
  obtain ⟨⟨c1, d1, dt1, sl1⟩, ho1, hc1, n1, hd1⟩ := id hl₁
  obtain ⟨⟨c2, d2, dt2, sl2⟩, ho2, hc2, n2, hd2⟩ := id hl₂
  simp only at hc1 hd1 hc2 hd2
  subst hc1 hd1 hc2 hd2
  refine concat_meets ⟨_, ho1, rfl⟩ ⟨_, ho2, rfl⟩ noFill_list_add seq_list_add PySem.F.slot_list_add PySem.F.entry_list_add (PySem.F.args_list_add_2 _ _) (list_addW a b vs.toArray us.toArray n1 n2 d1 d2 sl1 sl2 (by simpa [hall₁.length, hall₂.length] using hz)) ⟨ho1, ho2, ?_⟩
  rw [show vs.toArray ++ us.toArray = (vs ++ us).toArray from by simp]
  exact h _ _ (.push _ _) (repF_listP (fun b => R.fresh .c b) (hall₁.append hall₂))⟩

theorem CallB.lenS {l : List Nat} {fl : Fl} (hz : l.length ≤ sizeLine) : CallB T n (.builtin "len") [(.d (.str (mkS l)), fl)] (.int l.length) := ⟨fun {A reg s E Q vals} hA R W r h => by
  cases r with
  | cons r1 r2 =>
    cases r2
    obtain ⟨t, rfl⟩ := Rep.str_inv r1
    refine P.len_str (by rw [mkS_len]; have : sizeLine = 2 ^ 24 := rfl; omega) ?_
    rw [mkS_len]
    exact h _ _ (.tok _ _) (repF_int ..)⟩
theorem CallB.lenL {xs : List PyData} {fl : Fl} (hz : xs.length ≤ sizeLine) : CallB T n (.builtin "len") [(.d (.list xs), fl)] (.int xs.length) := ⟨fun {A reg s E Q vals} hA R W r h => by
  cases r with
  | cons r1 r2 =>
    cases r2
    obtain ⟨a, vs, rfl, _, hl, hall⟩ := Rep.list_inv r1
    have hlen : vs.toArray.size = xs.length := by rw [List.size_toArray]; exact hall.length
    refine call_len_list hl (by rw [hlen]; have : sizeLine = 2 ^ 24 := rfl; omega) ?_
    rw [hlen]
    exact h _ _ (.tok _ _) (repF_int ..)⟩
def decS (i : Int) : List Nat := (Str.ofString (toString i)).cps.toList
theorem CallB.strI {i : Int} {fl : Fl} (h0 : 0 ≤ i) (h1 : i < 10000) : CallB T n (.type "str") [(.d (.int i), fl)] (.str (mkS (decS i))) := ⟨fun {A reg s E Q vals} hA R W r h => by
  cases r with
  | cons r1 r2 =>
    cases r2
    obtain ⟨t, rfl⟩ := Rep.int_inv r1
    refine P.str_of_int ?_ (h _ _ (.tok _ _) (repF_str ..))
    by_cases hz : i.natAbs = 0
    · rw [hz]; decide
    · have : i.natAbs < 2 ^ 1920 := Nat.lt_trans (show i.natAbs < 10000 by omega) (by decide +kernel)
      exact (Nat.log2_lt hz).mpr this⟩
theorem CallB.intS {l : List Nat} {fl : Fl} (hd : NumText.AllDigits l) (hne : l ≠ []) (hz : l.length ≤ 640) : CallB T n (.type "int") [(.d (.str (mkS l)), fl)] (.int (NumText.digitsVal l : Nat)) := ⟨fun {A reg s E Q vals} hA R W r h => by
  cases r with
  | cons r1 r2 =>
    cases r2
    obtain ⟨t, rfl⟩ := Rep.str_inv r1
    exact KIN.call_text (intText_digits (x := mkS l) hd hne (by rw [mkS_len]; omega)) (by rw [mkS_len]; exact hz) (h _ _ (.tok _ _) (repF_int ..))⟩

structure IsA (T : St) (n : Nat) (v : Vl) (ty : String) (b : Bool) : Prop where
  run : ∀ {A : Around} {R : Addr → Prop} {s : Shared} {E : Value → Shared → Prop} {Q : Value → Shared → Prop} {x : Value}, Amb n A → RepV T.w R s.heap x v → (∀ s', Kp T.N s s' → Q (.bool b) s') → wpAny T.M A (call (.builtin "isinstance") [x, .type ty]) Q E s
theorem IsA.str {x : Str} : IsA T n (.d (.str x)) "str" true := ⟨fun hA r h => by
  obtain ⟨t, rfl⟩ := Rep.str_inv r
  exact IsiPair.str_str (h _ (.refl _))⟩
theorem EvF.isi {e : PySem.Expr} {t : Str} {p p' pos : Pos} {v : Vl} {fl : Fl} {ty : String} {b : Bool} (he : Ev T n env Γ e v fl) (hx : env.kindOf "isinstance" = some .globalImplicit) (hg : T.mg "isinstance" = none) (hb : T.mb "isinstance" = some (.builtin "isinstance"))
    (hx' : env.kindOf t = some .globalImplicit) (hd' : (t == ("__debug__" : Str)) = false) (hg' : T.mg t = none) (hb' : T.mb t = some (.type ty)) (hi : IsA T n v ty b) (hs : starEach [e, .Name t p'] env = [(false, eval e env), (false, eval (.Name t p') env)]) :
    EvF T n env Γ (.Call (.Name "isinstance" p) [e, .Name t p'] [] pos) (.bool b) := ⟨fun {A reg s E Q} hA R h => by
  refine Call_Name rfl (ld_builtin R hx (by decide +kernel) hg hb ?_)
  have hb1 : backTo pos (starEach [e, .Name t p'] env) = [(false, eval e env), (false, eval (.Name t p') env)] := by rw [hs]; rfl
  rw [hb1]
  refine callWith_machine (.inl ⟨_, rfl⟩) rfl (evalArgs_plain (spliced_cons (he.run hA R fun val s₁ k₁ r₁ => spliced_cons (ld_builtin (R.kp k₁) hx' hd' hg' hb' (spliced_nil ?_)))))
  exact hi.run hA r₁ fun s₂ k₂ => h _ _ (k₁.trans k₂) (repF_bool b)⟩

theorem strsAre_of {w : World} {R : Addr → Prop} {h : Heap} : ∀ {vs : List Value} {xs : List (List Nat)}, RepAll w R h vs (xs.map fun x => .str (mkS x)) → StrsAre vs (xs.map mkS)
  | [], [], _ => .nil
  | [], _ :: _, ⟨_, r, _⟩ => nomatch r
  | _ :: _, [], ⟨_, r, _⟩ => nomatch r
  | _ :: _, x :: xs, r => by
    obtain ⟨t, e⟩ := Rep.str_inv r.cons_inv.1
    subst e
    exact .cons _ t (strsAre_of r.cons_inv.2)
theorem join_mkS (sep : List Nat) : ∀ xs : List (List Nat), Str.join (mkS sep) (xs.map mkS) = mkS (List.intercalate sep xs)
  | [] => rfl
  | [x] => by simp [Str.join, List.intercalate]
  | x :: y :: r => by
    show mkS x ++ mkS sep ++ Str.join (mkS sep) ((y :: r).map mkS) = _
    rw [join_mkS sep (y :: r), mkS_app, mkS_app]
    simp [List.intercalate]
theorem Meth.join {sep : List Nat} {xs : List (List Nat)} {fl f₂ : Fl} (hok : (xs.map (·.length)).sum + xs.length * sep.length ≤ 16777216) : Meth T n "join" (.d (.str (mkS sep))) fl [(.d (.list (xs.map fun x => .str (mkS x))), f₂)] (.str (mkS (List.intercalate sep xs))) := ⟨fun {A reg s E Q ov} hA r => by
  obtain ⟨t, rfl⟩ := Rep.str_inv r
  refine ⟨"str", "str.join", F.plainAttrs_str, F.slot_str_join, F.type_str_join, typeIs_str _ _ _, fun _ e => (nomatch e), fun s₁ vals k R W rs h => ?_⟩
  cases rs with
  | cons r1 r2 =>
    cases r2
    obtain ⟨a, vs, rfl, _, hl, hall⟩ := Rep.list_inv r1
    have hst := strsAre_of hall
    refine join_list hl hst ?_ fun t' k' => ?_
    · simpa [Function.comp_def, mkS_len] using hok
    · have e : Txt.join (mkS sep) (xs.map mkS) = mkS (List.intercalate sep xs) := by
        show Builtin.Str.glued _ _ = _
        rw [StrLaws.glued_eq_join]; exact join_mkS sep xs
      rw [e]
      exact h _ _ (.tok _ _) (repF_str ..)⟩
end
end Mine
end
section
open PySem PySem.Calls PyProof.Rows PySem.W
set_option linter.all false
namespace Mine

structure GdK (T : St) (K : Frag) : Prop where
  k : T.K = K
  g : ∀ x r, nsIn K mainGlobals x = some r → T.mg x = r
  b : ∀ x : Str, x ≠ "__name__" → T.mb x = bootBuiltins x
  fr : ∃ (p : Program) (loose : List Str), ∀ x, x ∉ startupNames → x ∉ loose → x ∉ (recsOf p).map (·.name) → x ∉ (litsOf p).map (·.1) → x ∉ (clssOf p loose).map (·.name) → T.mg x = none
theorem GdK.gd {T : St} {K : Frag} (G : GdK T K) : Gd T := ⟨fun x r e => G.g x r (by rw [← G.k]; exact e), G.b⟩
theorem GdK.bi {T : St} {K : Frag} (G : GdK T K) {x : Str} {v : Value} (hv : bootBuiltins x = some v) (hn : (x == ("__name__" : Str)) = false) : T.mb x = some v := (G.b x (by simpa using hn)).trans hv

def okNames (ns : List Str) : Bool := (decide ns.Nodup) && ns.all fun x => !(x == ("__debug__" : Str))
theorem okNames_ok {ns : List Str} (h : okNames ns = true) : GmOk ns := by
  simp only [okNames, Bool.and_eq_true, decide_eq_true_eq, List.all_eq_true] at h
  exact ⟨h.1, fun x hx => by have := h.2 x hx; simpa using this⟩
def okPrm (scope : Scope) (ps : List Str) : Bool := ps.all fun x => match scope.names.lookup x with
  | some .local => true
  | some .cell => true
  | _ => false
theorem okPrm_ok {scope : Scope} {ps : List Str} (h : okPrm scope ps = true) : ∀ x ∈ ps, scope.names.lookup x = some .local ∨ scope.names.lookup x = some .cell := fun x hx => by
  have := List.all_eq_true.mp h x hx
  revert this
  split <;> simp_all

theorem Fun.defK {T : St} {K : Frag} {n : Nat} {f : Str} {a : Addr} {xs : List Vl} {d : PyData} {name qual : Str} {params : Arguments} {body : List Stmt} {scope : Scope} {dV kV doc pm cdv ct oc : Value} {an od : Option Addr} {osl : Array (Option Value)} {Γp : Gm}
    (G : GdK T K) (ps ls : List Str) (hn : nsIn K mainGlobals f = some (some (.ref a))) (ho : K.lookup a = some ⟨oc, od, .func (fnOf name qual params body scope dV kV doc pm an cdv ct), osl⟩) (hcd : codeIn K cdv qual = true)
    (hb : Binds (fnOf name qual params body scope dV kV doc pm an cdv ct) ps) (hp : Prm ps xs Γp) (hok : okNames (ps ++ ls) = true) (hk : okPrm scope ps = true)
    (hsc : scope.kind = .function ∧ scope.isCoroutine = false ∧ scope.isGenerator = false)
    (h : ∀ env : Env, env.scope = scope → Ex T n env (Γp ++ ls.map fun x => (x, none)) body (Ends d)) : Fun T (n + 1) f xs d :=
  Fun.def G.gd (by rw [G.k]; exact hn) (by rw [G.k]; exact ho) (by rw [G.k]; exact hcd) hb hp (okNames_ok hok) (okPrm_ok hk) hsc h

theorem kd {env : Env} {scope : Scope} (he : env.scope = scope) {x : Str} {k : NameKind} (h : scope.names.lookup x = some k) : env.kindOf x = some k := by
  unfold Env.kindOf; rw [he]; exact h

section
variable {T : St} {n : Nat} {env : Env} {Γ : Gm}
inductive Cut (lo hi : Option Int) : Vl → Fl → PyData → Prop where
  | s {x : List Nat} {fl : Fl} : x.length ≤ sizeLine → Cut lo hi (.d (.str (mkS x))) fl (.str (mkS (pyCut lo hi x)))
  | l {xs : List PyData} {fl : Fl} : xs.length ≤ sizeLine → fl = .c ∨ stillAll xs = true → Cut lo hi (.d (.list xs)) fl (.list (pyCut lo hi xs))
theorem EvF.cut {e : PySem.Expr} {l u : Option PySem.Expr} {p pos : Pos} {v : Vl} {fl : Fl} {lo hi : Option Int} {d : PyData} (he : Ev T n env Γ e v fl) (hl : Opt T n env Γ l lo) (hu : Opt T n env Γ u hi) (hc : Cut lo hi v fl d) :
    EvF T n env Γ (.Subscript e (.Slice l u none p) pos) d := by
  cases hc with
  | s hz => exact .cutS he hl hu hz
  | l hz hs => exact .cutL he hl hu hz hs
end

def okComp (scope sc : Scope) (x : Str) : Bool := (match scope.names.lookup x with | some .local => true | _ => false) && scope.names.all fun y => match y.2 with
  | .cell => false
  | .local => (match scope.names.lookup y.1 with | some .local => true | _ => false)
  | .free => (match sc.names.lookup y.1 with | some .cell => true | _ => false)
  | _ => true
theorem okComp_ok {scope sc : Scope} {env : Env} {x : Str} (he : env.scope = sc) (hk : scope.kind = .function) (h : okComp scope sc x = true) : CompScope scope env x := by
  unfold okComp at h
  rw [Bool.and_eq_true, List.all_eq_true] at h
  refine ⟨hk, fun y hy q => ?_, fun y hy q => ?_, ?_, fun y hy q => ?_⟩
  · have := h.2 y hy; rw [q] at this; cases this
  · have := h.2 y hy; rw [q] at this
    revert this; dsimp only; split <;> simp_all
  · have := h.1
    revert this; split <;> simp_all
  · have := h.2 y hy; rw [q] at this
    refine kd he ?_
    revert this; dsimp only; split <;> simp_all
theorem sizeLine_is : sizeLine = 16777216 := rfl
theorem stillAll_ints : ∀ ns : List Int, stillAll (ns.map .int) = true
  | [] => rfl
  | _ :: ns => by simp [stillAll, still, stillAll_ints ns]
theorem Ends.str {l l' : List Nat} {Γ : Gm} (h : l' = l) : Ends (.str (mkS l)) (.ret (.str (mkS l'))) Γ := by subst h; rfl
theorem Ends.ret {d d' : PyData} {Γ : Gm} (h : d' = d) : Ends d (.ret d') Γ := h
section
variable {T : St} {n : Nat} {env : Env} {Γ : Gm}
inductive Fst : List (Vl × Fl) → List Vl → Prop where
  | nil : Fst [] []
  | cons {v : Vl} {fl : Fl} {xs : List (Vl × Fl)} {ys : List Vl} : Fst xs ys → Fst ((v, fl) :: xs) (v :: ys)
theorem Fst.eq {xs : List (Vl × Fl)} {ys : List Vl} (h : Fst xs ys) : xs.map (·.1) = ys := by
  induction h with
  | nil => rfl
  | cons _ ih => simp [ih]
theorem EvF.fnL {m : Nat} {f : Str} {p pos : Pos} {args : List PySem.Expr} {xs : List (Vl × Fl)} {ys : List Vl} {d : PyData} (hx : env.kindOf f = some .globalImplicit) (hd : (f == ("__debug__" : Str)) = false)
    (ha : EvA T n env Γ args xs) (hf : Fst xs ys) (hc : Fun T m f ys d) (hm : m ≤ n) : EvF T n env Γ (.Call (.Name f p) args [] pos) d := by
  have e := hf.eq
  subst e; exact EvF.fn hx hd ha hc hm
def EvL (T : St) (n : Nat) (env : Env) (Γ : Gm) (es : List PySem.Expr) (ds : List PyData) : Prop := EvA T n env Γ es (ds.map fun d => (.d d, .c))
theorem EvL.nil : EvL T n env Γ [] [] := EvA.nil
theorem EvL.cons {e : PySem.Expr} {es : List PySem.Expr} {d : PyData} {ds : List PyData} (x : Ev T n env Γ e (.d d) .c) (y : EvL T n env Γ es ds) (hs : starEach (e :: es) env = (false, eval e env) :: starEach es env) : EvL T n env Γ (e :: es) (d :: ds) := EvA.cons x y hs
theorem EvF.listL {es : List PySem.Expr} {pos : Pos} {ds : List PyData} (ha : EvL T n env Γ es ds) (hz : ds.length ≤ sizeLine) : EvF T n env Γ (.List es pos) (.list ds) := EvF.list ha hz
end

end Mine
end
section
open PySem PySem.Calls PyProof.Rows PySem.W
set_option linter.all false
namespace Mine
section
variable {T : St} {n : Nat} {env : Env} {Γ : Gm}
def isNoneD : PyData → Bool
  | .none => true
  | _ => false
end
end Mine
end
section
open PySem PySem.W PyProof.Rows
set_option linter.all false
namespace Mine
theorem pyCut_ab {α : Type} (l : List α) (a b : Int) (ha : 0 ≤ a) (hb : 0 ≤ b) : pyCut (some a) (some b) l = (l.drop a.toNat).take (b.toNat - a.toNat) := by
  unfold pyCut clampTo
  simp only [show ¬ a < 0 by omega, show ¬ b < 0 by omega, if_false]
  by_cases hk : a.toNat ≤ l.length
  · rw [show min a.toNat l.length = a.toNat by omega]
    by_cases hb' : b.toNat ≤ l.length
    · rw [show min b.toNat l.length = b.toNat by omega]
    · rw [show min b.toNat l.length = l.length by omega, List.take_of_length_le (by simp), List.take_of_length_le (by simp; omega)]
  · rw [show min a.toNat l.length = l.length by omega, List.drop_eq_nil_of_le (Nat.le_refl _), List.drop_eq_nil_of_le (by omega)]
    simp
theorem of_item (ns : List Int) (k : Int) (h : 0 ≤ k) : (pyCut (some k) (some (k + 1)) (ns.map PyData.int) ++ [PyData.int 0])[Int.toNat 0]? = some (.int (ns.getD k.toNat 0)) := by
  rw [pyCut_ab _ _ _ h (by omega), show (k + 1).toNat - k.toNat = 1 by omega]
  rw [show Int.toNat 0 = 0 from rfl]
  by_cases hk : k.toNat < ns.length
  · rw [List.drop_eq_getElem_cons (by simpa using hk)]
    simp [List.getD, hk]
  · rw [List.drop_eq_nil_of_le (by simpa using Nat.le_of_not_lt hk)]
    simp [List.getD, List.getElem?_eq_none (Nat.le_of_not_lt hk)]

theorem decS_len {i : Int} (h0 : 0 ≤ i) (h1 : i < 94) : (decS i).length ≤ 2 := by
  have h : ∀ k : Fin 94, (decS (k.val : Int)).length ≤ 2 := by decide +kernel
  have := h ⟨i.toNat, by omega⟩
  rwa [show ((i.toNat : Nat) : Int) = i by omega] at this

def sgn (i : Nat) : Nat := if i < 5 then i + 32 else i + 33
def signsL : List Nat := (List.range 94).map sgn
theorem signsL_len : signsL.length = 94 := by decide +kernel
theorem signsL_at {i : Nat} (h : i < 94) : signsL[i]? = some (sgn i) := by simp [signsL, h]

def Odd (c : Nat) : Prop := c = 46 ∨ c = 47 ∨ c = 64 ∨ c = 126
def fig (c : Nat) : List Nat := if c = 46 then [49, 51] else if c = 47 then [49, 52] else if c = 64 then [51, 49] else [57, 51]
def esc (c : Nat) : List Nat := 126 :: fig c
def mst (name : List Nat) (k : Nat) : Bool := decide (name.getD k 0 = 47) || (decide (name.getD k 0 = 126) || (decide (k = 0) && (decide (name.getD k 0 = 64) || (decide (name = [46]) || decide (name = [46, 46])))))
def pc (name : List Nat) (k : Nat) : List Nat := if mst name k then esc (name.getD k 0) else [name.getD k 0]
def wrTo (name : List Nat) (i : Nat) : List Nat := (List.range i).flatMap (pc name)
def wr (name : List Nat) : List Nat := wrTo name name.length
def oddL : List (List Nat) := [[46], [46, 46], [126], [47], [64], [64, 97], [97], [98], [46, 46, 46], [46, 97], [126, 49, 51], [97, 47, 98], [32], [46, 46, 97]]
def nmS (c : Int) (k : Nat) : Nat := sgn (((c / 12 + 7 * (k : Int)) * 48271 % 65537 / 5 % 94).toNat)
def nmSize (c : Int) : Int := if c / 12 % 9 = 4 then 1 + c / 3 % 4 + c / 108 % 40 else 1 + c / 3 % 4
def nameBy (c : Int) : List Nat := if c % 3 = 0 then oddL.getD (c / 3 % 14).toNat [] else (List.range (nmSize c).toNat).map (nmS c)
end Mine
end
section
open PySem PySem.W PyProof.Rows
set_option linter.all false
namespace Mine
theorem icat_nil : ∀ xs : List (List Nat), List.intercalate [] xs = xs.flatten
  | [] => rfl
  | [x] => by simp [List.intercalate]
  | x :: y :: r => by
    have := icat_nil (y :: r)
    simp [List.intercalate] at this ⊢
    rw [← this]
def longN (first size : Int) : List Nat := (List.range size.toNat).map fun k : Nat => sgn ((first + 7 * (k : Int) * (k : Int)) % 94).toNat
def frk : Int → PyData → PyData
  | first, .int k => .str (mkS [sgn ((first + 7 * k * k) % 94).toNat])
  | _, _ => .none
end Mine
end
section
namespace Mine
def splitC (c : Nat) : List Nat → List (List Nat)
  | [] => [[]]
  | x :: r => if x = c then [] :: splitC c r else (x :: (splitC c r).headD []) :: (splitC c r).tail
theorem splitC_ne (c : Nat) : ∀ l, splitC c l ≠ []
  | [] => by simp [splitC]
  | x :: r => by unfold splitC; split <;> simp
theorem icat_cons (s : List Nat) (x y : List Nat) (r : List (List Nat)) : List.intercalate s (x :: y :: r) = x ++ s ++ List.intercalate s (y :: r) := by
  simp [List.intercalate]
theorem icat_single (s : List Nat) (x : List Nat) : List.intercalate s [x] = x := by simp [List.intercalate]
theorem splitC_app (c : Nat) : ∀ (p l : List Nat), c ∉ p → splitC c (p ++ c :: l) = p :: splitC c l
  | [], l, _ => by rw [List.nil_append, splitC, if_pos rfl]
  | x :: p, l, h => by
    simp only [List.mem_cons, not_or] at h
    rw [List.cons_append, splitC, if_neg (fun e => h.1 e.symm), splitC_app c p l h.2]
    rfl
theorem splitC_one (c : Nat) : ∀ (p : List Nat), c ∉ p → splitC c p = [p]
  | [], _ => rfl
  | x :: p, h => by
    simp only [List.mem_cons, not_or] at h
    rw [splitC, if_neg (fun e => h.1 e.symm), splitC_one c p h.2]
    rfl
theorem icat_splitC (c : Nat) : ∀ (ps : List (List Nat)), ps ≠ [] → (∀ p ∈ ps, c ∉ p) → splitC c (List.intercalate [c] ps) = ps
  | [], h, _ => absurd rfl h
  | [p], _, h => by rw [icat_single, splitC_one c p (h p (.head _))]
  | p :: q :: r, _, h => by
    rw [icat_cons, List.append_assoc, List.singleton_append, splitC_app c p _ (h p (.head _)), icat_splitC c (q :: r) (by simp) fun x hx => h x (.tail _ hx)]

def isDig (c : Nat) : Bool := decide (48 ≤ c) && decide (c ≤ 57)
def val2 (p q : Nat) : Nat := 10 * (p - 48) + (q - 48)
def readL : List Nat → Option (List Nat)
  | [] => some []
  | [c] => if c = 126 then none else some [c]
  | [c, d] => if c = 126 then none else (readL [d]).map (c :: ·)
  | c :: p :: q :: r => if c = 126 then (if isDig p && isDig q && decide (val2 p q ≤ 93) then (readL r).map (sgn (val2 p q) :: ·) else none) else (readL (p :: q :: r)).map (c :: ·)
theorem readL_plain {c : Nat} (h : c ≠ 126) (r : List Nat) : readL (c :: r) = (readL r).map (c :: ·) := by
  match r with
  | [] => simp [readL, h]
  | [d] => simp only [readL, if_neg h]
  | p :: q :: r => simp only [readL, if_neg h]
theorem readL_esc {p q : Nat} (r : List Nat) (h1 : isDig p = true) (h2 : isDig q = true) (h3 : val2 p q ≤ 93) : readL (126 :: p :: q :: r) = (readL r).map (sgn (val2 p q) :: ·) := by
  simp [readL, h1, h2, h3]
theorem readL_bad {r : List Nat} (h : ∀ p q r', r = p :: q :: r' → isDig p = true → isDig q = true → ¬ val2 p q ≤ 93) : readL (126 :: r) = none := by
  match r with
  | [] => rfl
  | [d] => rfl
  | p :: q :: r =>
    have := h p q r rfl
    simp only [readL, if_true]
    split
    · rename_i hh
      simp only [Bool.and_eq_true, decide_eq_true_eq] at hh
      exact absurd hh.2 (this hh.1.1 hh.1.2)
    · rfl
def cpl : List (List Nat) → List (List Nat) → Nat
  | x :: s, y :: g => if x = y then cpl s g + 1 else 0
  | _, _ => 0
def partsL (ups : Nat) (names : List (List Nat)) : List (List Nat) := List.replicate ups [46, 46] ++ names.map wr
def hereL (ups : Nat) (names : List (List Nat)) : List Nat := if partsL ups names = [] then [46] else List.intercalate [47] (partsL ups names)
def wayL (s g : List (List Nat)) : List Nat := hereL (s.length - cpl s g) (g.drop (cpl s g))
inductive Stp where
  | root | up
  | sh (x : List Nat)
  | nm (x : List Nat)
def go (P : List Nat → List (List Nat)) (p : List (List Nat)) : Stp → List (List Nat)
  | .root => []
  | .up => p.dropLast
  | .sh x => P x
  | .nm x => p ++ [x]
def stepsL (ups : Nat) (names : List (List Nat)) : List Stp := List.replicate ups .up ++ names.map .nm
end Mine
end
section
open PySem PyProof.Rows PySem.W
set_option linter.all false
namespace Mine
abbrev sD (x : List Nat) : PyData := .str (mkS x)
abbrev PL (ps : List (List Nat)) : List PyData := ps.map fun x => PyData.str (mkS x)
def Asc (x : List Nat) : Prop := ∀ c ∈ x, c < 128
theorem beq_mkS (a b : List Nat) : (mkS a == mkS b) = decide (a = b) := by
  rw [Bool.eq_iff_iff]
  simp [mkS_inj]
section
variable {T : St} {n : Nat} {env : Env} {Γ : Gm}
end
end Mine
end
section
open PySem PySem.Calls PyProof.Rows PySem.W
set_option linter.all false
namespace Mine
theorem split_mkS (l : List Nat) (c : Nat) : Txt.split (mkS l) (mkS [c]) = (splitC c l).map mkS := by
  have hne : Txt.split (mkS l) (mkS [c]) ≠ [] := fun e => by have := (fact_split (mkS l) (mkS [c])).1; rw [e] at this; simp at this
  have hfree := StrLaws.split_free (mkS l) c
  have hj := StrLaws.join_split (mkS l) (mkS [c])
  have key : ∀ ps : List Str, ps = (ps.map fun p : Str => p.cps.toList).map mkS := fun ps => by
    rw [List.map_map]; exact (List.map_id' ps).symm
  have hfree' : ∀ p ∈ Txt.split (mkS l) (mkS [c]), c ∉ p.cps.toList := hfree
  generalize Txt.split (mkS l) (mkS [c]) = ps at hne hfree' hj
  have hj' : List.intercalate [c] (ps.map fun p : Str => p.cps.toList) = l := by
    rw [key ps, join_mkS] at hj
    exact mkS_inj.mp hj
  rw [key ps, ← hj', icat_splitC c _ (by simpa using hne)]
  intro p hp
  obtain ⟨q, hq, rfl⟩ := List.mem_map.mp hp
  exact hfree' q hq
section
variable {T : St} {n : Nat} {env : Env} {Γ Γ' : Gm}
end
end Mine
end
section
open PySem PySem.Calls PyProof.Rows PySem.W
set_option linter.all false
namespace Mine
section
variable {T : St} {s₀ s : Shared} {d₀ : Addr → Prop} {env : Env} {own : Own} {Γ Γ' : Gm}
theorem SI.mutate {x : Str} {a : Addr} {d d' : PyData} {h' : Heap} {o' : Obj} (S : SI T s₀ d₀ env own Γ s) (hm : (x, some (.d d, .o)) ∈ Γ) (hx : own x = some a) (hp : Put Γ x (some (.d d', .o)) Γ') (hs : Heap.SameBut a s.heap h')
    (ho' : h'.get? a = some o') (hok : (o'.dict = none ∧ ∀ vs, o'.data ≠ .fields vs) ∧ o'.cls ≠ .type "tuple" ∧ o'.cls ≠ .type "frame")
    (hrep : ∃ as, Reads h' (.ref a) d' (a :: as) ∧ (∀ b ∈ as, regOf d₀ env own .c b) ∧ Dok T.w h' (a :: as)) :
    SI T s₀ d₀ env own Γ' { s with heap := h' } ∧ Pres T.N env own s { s with heap := h' } := by
  obtain ⟨m, cm, F, hn⟩ := S.frm
  obtain ⟨h1, h2, h3, o, h4, h5, h6, h7⟩ := S.ownNew x a hx
  have F' := F.but hs h1 (Ne.symm h2) (fun y c hc q => h3 y c hc q.symm)
  have chg : ChgH T.N (· = a) s.heap h' := ChgH.of_but hs
  have ntup : ∀ z, z = a → NotTup s.heap z := fun z hz => May.notTup S z (.inr (.inr ⟨x, hz ▸ hx⟩))
  refine ⟨⟨S.eok, S.cok, by rw [hp.names]; exact S.ok, S.wd0, S.d0, fun y b e => ?_, S.ownInj, m, cm, F', fun y v fl hm' => ?_⟩, ⟨⟨_, _, rfl⟩, chg.mono fun b hb => .inr (.inr ⟨x, by rw [show b = a from hb]; exact hx⟩), fun b e => ?_⟩⟩
  · obtain ⟨g1, g2, g3, o1, g4, g5, g6, g7⟩ := S.ownNew y b e
    by_cases hb : b = a
    · subst hb; exact ⟨g1, g2, g3, o', ho', hok⟩
    · exact ⟨g1, g2, g3, o1, (hs.2 b hb).trans g4, g5, g6, g7⟩
  · rcases hp.cases S.ok.nodup y _ hm' with ⟨rfl, e⟩ | ⟨hyx, hm''⟩
    · cases e
      obtain ⟨val, l, dd, a', as, e1, e2, e3, _⟩ := hn _ _ _ hm
      rw [hx] at e3; cases e3
      obtain ⟨as', r1, r2, r3⟩ := hrep
      exact ⟨val, l, d', a, as', rfl, e2, hx, by rw [e2]; exact r1, r2, r3⟩
    · obtain ⟨val, l, r⟩ := hn y v fl hm''
      refine ⟨val, l, ?_⟩
      cases fl with
      | c => exact RepV.chg r chg ntup fun b hb q => hb.2.2.2 x (by rw [show b = a from q]; exact hx)
      | b => exact RepV.chg r chg ntup fun b hb q => hb.2.2 x (by rw [show b = a from q]; exact hx)
      | o =>
        obtain ⟨d1, a1, as1, e1, e2, e3, e4, e5, e6⟩ := r
        have hna : ∀ b ∈ a1 :: as1, ¬ b = a := fun b hb q => by
          rcases List.mem_cons.mp hb with rfl | hb
          · exact hyx (S.ownInj y x a (q ▸ e3) hx)
          · exact (e5 b hb).2.2.2 x (q ▸ hx)
        exact ⟨d1, a1, as1, e1, e2, e3, reads_chg chg ntup e4 hna, e5, e6.chg chg hna⟩
  · by_cases hb : b = a
    · subst hb
      have e' : h'.get? b = none := e
      rw [ho'] at e'; cases e'
    · exact (hs.2 b hb).symm.trans e
end
section
variable {T : St} {n : Nat} {env : Env} {Γ Γ' : Gm} {Q : Fw → Gm → Prop}
theorem own_list {s₀ s : Shared} {d₀ : Addr → Prop} {own : Own} {x : Str} {xs : List PyData} (S : SI T s₀ d₀ env own Γ s) (hm : (x, some (.d (.list xs), .o)) ∈ Γ) :
    ∃ a vs o k, NameIs env s.heap x (.ref a) ∧ own x = some a ∧ s.heap.get? a = some o ∧ o.cls = .type "list" ∧ o.dict = none ∧ o.data = .seq (List.toArray vs) k ∧ RepAll T.w (regOf d₀ env own .c) s.heap vs xs := by
  obtain ⟨m, cm, F, hn⟩ := S.frm
  obtain ⟨val, l, dd, a, as, e1, e2, e3, e4, e5, e6⟩ := hn _ _ _ hm
  cases e1
  subst e2
  obtain ⟨h1, h2, h3, o, h4, h5, h6, h7⟩ := S.ownNew x a e3
  cases e4 with
  | @list _ o' vs k _ _ ho hc hd hall =>
    rw [h4] at ho; cases ho
    exact ⟨a, vs.toList, o, k, l.is F, e3, h4, hc, h5.1, by simpa using hd, as, hall, e5, fun b hb => e6 b (.tail _ hb)⟩
theorem SI.relist {s₀ s : Shared} {d₀ : Addr → Prop} {own : Own} {x : Str} {xs xs' : List PyData} {vs' : List Value} {a : Addr} {h' : Heap} {o' : Obj} {k' : Nat} (S : SI T s₀ d₀ env own Γ s) (hm : (x, some (.d (.list xs), .o)) ∈ Γ) (hx : own x = some a)
    (hp : Put Γ x (some (.d (.list xs'), .o)) Γ') (hs : Heap.SameBut a s.heap h') (ho' : h'.get? a = some o') (hc : o'.cls = .type "list") (hdi : o'.dict = none) (hd : o'.data = .seq (List.toArray vs') k')
    (hall : RepAll T.w (regOf d₀ env own .c) s.heap vs' xs') : SI T s₀ d₀ env own Γ' { s with heap := h' } ∧ Pres T.N env own s { s with heap := h' } := by
  have chg : ChgH T.N (· = a) s.heap h' := ChgH.of_but hs
  have ntup : ∀ z, z = a → NotTup s.heap z := fun z hz => May.notTup S z (.inr (.inr ⟨x, hz ▸ hx⟩))
  obtain ⟨as, r1, r2, r3⟩ := RepAll.chg hall chg ntup fun b hb q => hb.2.2.2 x (by rw [show b = a from q]; exact hx)
  refine S.mutate hm hx hp hs ho' ⟨⟨hdi, fun vs q => by rw [hd] at q; cases q⟩, by rw [hc]; simp, by rw [hc]; simp⟩ ⟨as, .list ho' hc hd (by simpa using r1), r2, fun b hb => ?_⟩
  rcases List.mem_cons.mp hb with rfl | hb
  · exact ⟨o', ho', fun es k q => by rw [hd] at q; cases q⟩
  · exact r3 b hb
theorem ld_name {A : Around} {E : Value → Shared → Prop} {s : Shared} {x : Str} {pos : Pos} {v : Value} {Q : Value → Shared → Prop} (hk : env.scope.kind = .function) (hv : NameIs env s.heap x v) (hd : (x == ("__debug__" : Str)) = false) (h : Q v s) : wpAny T.M A (eval (.Name x pos) env) Q E s := by
  rcases hv with ⟨k, m, hn, hv⟩ | ⟨k, c, hc, hv⟩
  · exact wpAny_Name (wpAny_loadName_local hk k hn hv h) hd
  · exact wpAny_Name (wpAny_loadName_cell hk k hc hv h) hd
end
end Mine
end
section
open PySem PyProof.Rows PySem.W
set_option linter.all false
namespace Mine
def optS : Option (List Nat) → PyData
  | none => .none
  | some x => .str (mkS x)
def kRoot : List Nat := (Str.ofString "root").cps.toList
def kUp : List Nat := (Str.ofString "up").cps.toList
def kSh : List Nat := (Str.ofString "share").cps.toList
def kNm : List Nat := (Str.ofString "name").cps.toList
def stD : Stp → PyData
  | .root => .tuple [.str (mkS kRoot)]
  | .up => .tuple [.str (mkS kUp)]
  | .sh x => .tuple [.str (mkS kSh), .str (mkS x)]
  | .nm x => .tuple [.str (mkS kNm), .str (mkS x)]
def NoSh : Stp → Prop
  | .sh _ => False
  | _ => True
theorem sum_le {B : Nat} : ∀ xs : List (List Nat), (∀ x ∈ xs, x.length ≤ B) → (xs.map (·.length)).sum ≤ xs.length * B
  | [], _ => by simp
  | x :: xs, h => by
    have h1 := h x (.head _)
    have h2 := sum_le xs fun y hy => h y (.tail _ hy)
    simp only [List.map_cons, List.sum_cons, List.length_cons, Nat.add_mul, Nat.one_mul]
    omega
def cellsL (ns : List Int) (start many : Nat) (far : Bool) : List Int := if far then (List.range 60).map fun k : Nat => ns.getD start 0 + 13 * (k : Int) * (k : Int) else (List.range many).map fun k : Nat => ns.getD (start + k) 0
theorem digits_is (c : Nat) : decide (c ∈ (Str.ofString "0123456789").cps.toList) = isDig c := by
  have : (Str.ofString "0123456789").cps.toList = [48, 49, 50, 51, 52, 53, 54, 55, 56, 57] := by decide +kernel
  rw [this, Bool.eq_iff_iff]
  simp only [isDig, Bool.and_eq_true, decide_eq_true_eq, List.mem_cons, List.not_mem_nil, or_false]
  omega
end Mine
end
section
open PySem PyProof.Rows PySem.W
set_option linter.all false
namespace Mine
def IsSgn (c : Nat) : Prop := ∃ i, i < 94 ∧ c = sgn i
def idx (c : Nat) : Nat := if c < 37 then c - 32 else c - 33
def escG (c : Nat) : List Nat := [126, 48 + idx c / 10, 48 + idx c % 10]
def cel (c : Int) : Nat → Int
  | 0 => c
  | k + 1 => cel c k / 2
def mstG (nm : List Nat) (cell : Int) (k : Nat) : Bool := decide (nm.getD k 0 ∈ [47, 126]) || ((decide (k = 0) && decide (nm.getD 0 0 = 64)) || (cel cell k % 2 == 1))
def pcG (nm : List Nat) (cell : Int) (k : Nat) : List Nat := if mstG nm cell k then escG (nm.getD k 0) else [nm.getD k 0]
def partTo (nm : List Nat) (cell : Int) (i : Nat) : List Nat := (List.range i).flatMap (pcG nm cell)
def part0 (nm : List Nat) (cell : Int) : List Nat := partTo nm cell nm.length
def partL (nm : List Nat) (cell : Int) : List Nat := if part0 nm cell = [46] ∨ part0 nm cell = [46, 46] then escG 46 ++ (part0 nm cell).drop 1 else part0 nm cell
def shareL (nm : List Nat) (cell : Int) : List Nat := if cell % 2 = 1 ∧ 47 ∉ nm ∧ 126 ∉ nm then 64 :: nm else 64 :: partL nm (cell / 2)
def stepOf (p : List Nat) : Option (List Stp) :=
  if p = [] ∨ p = [46] then some [] else if p = [46, 46] then some [.up] else if p.getD 0 0 = 64 then (readL (p.drop 1)).map fun x => [.sh x] else (readL p).map fun x => [.nm x]
def cellP (names : List (List Nat)) (c : Int) : List Nat × List Stp :=
  if c % 8 < 2 then ((if c % 8 = 0 then [] else [46]), []) else if c % 8 < 4 then ([46, 46], [.up])
  else if c % 8 = 4 ∧ 0 < names.length then (shareL (names.getD (c / 8 % names.length).toNat []) (c / 8 / 5 % 128), [.sh (names.getD (c / 8 % names.length).toNat [])])
  else (partL (nameBy (c / 8)) (c / 8 / 3 % 4096), [.nm (nameBy (c / 8))])
def pthParts (names : List (List Nat)) (cs : List Int) : List (List Nat) := cs.map fun c => (cellP names c).1
def pthSteps (names : List (List Nat)) (cs : List Int) : List Stp := cs.flatMap fun c => (cellP names c).2
def pthLine (names : List (List Nat)) (cs : List Int) : List Nat := List.intercalate [47] (pthParts names cs)
def rootOf (line : List Nat) : List Stp := if line[0]? = some 47 then [.root] else []
def brkL : List (List Nat) := [[126], [97, 126, 57], [64, 126], [126, 57, 52, 98], [64, 97, 126, 120], [126, 49, 47], [46, 46, 126], [64, 126, 126]]
end Mine
end
section
open PySem PySem.Calls PyProof.Rows PySem.W
set_option linter.all false
set_option maxRecDepth 100000
namespace Mine
section
variable {T : St} {n : Nat} {env : Env} {Γ Γ' : Gm} {Q : Fw → Gm → Prop}
theorem meets_insert (l : Addr) (items : Array Value) (n : Nat) (dd : Option Addr) (sl : Array (Option Value)) (x : Int) (u : Tok) (y : Value) (hc0 : ¬(!Builtin.List.listFitsIndex x) = true) (hs1 : items.size ≤ sizeLine) :
    Meets (Builtin.«list.insert» ⟨[.ref l, .int x u, y], []⟩) (fun _ R s => s.heap.get? l = some { cls := .type "list", dict := dd, data := .seq items n, slots := sl } ∧ R (.ok (.ret Value.none)) { s with heap := s.heap.update l (Obj.mapSeq fun xs => have k := if x < 0 then (x + (xs.size : Int)).toNat else min x.toNat xs.size; (xs.extract 0 k).push y ++ xs.extract k), toks := s.toks }) :=
  .of_wp fun prog w A R s h => by
    obtain ⟨hp, g, d, tk, os⟩ := s; obtain ⟨hl, h⟩ := h; have f1 := AutoSeq1.idx_int; have f2 := AutoSeq1.sub_tuple_tuple; have f3 := AutoSeq1.sub_list_list; have f4 := AutoSeq1.sub_tuple_list; have f5 := AutoSeq1.sub_list_tuple
    have hz' : ((fun xs : Array Value => have k := if x < 0 then (x + (xs.size : Int)).toNat else min x.toNat xs.size; (xs.extract 0 k).push y ++ xs.extract k) items).size ≤ sizeLine + 1 := Nat.le_trans (AutoSeq1.size_inserted items _ _) (Nat.add_le_add_right hs1 1)
    wp_walk using (wpAny_updateSeq hl rfl (hz := hs1) (_hz' := hz')), AutoSeq1.wpAny_loadPart' hl; exact ⟨_, rfl, h⟩
theorem Ex1.insert {x : Str} {p₁ p₂ p₃ p₄ : Pos} {e₁ e₂ : PySem.Expr} {xs : List PyData} {i : Int} {f₁ : Fl} {d : PyData} (hm : (x, some (.d (.list xs), .o)) ∈ Γ) (ha : EvA T n env Γ [e₁, e₂] [(.d (.int i), f₁), (.d d, .c)]) (h0 : 0 ≤ i) (hi : i ≤ xs.length) (hz : xs.length ≤ sizeLine)
    (hp : Put Γ x (some (.d (.list (xs.take i.toNat ++ d :: xs.drop i.toNat)), .o)) Γ')
    (hbase : attributeBase (.Name x p₁) "insert" env (eval (.Name x p₁) env) = eval (.Name x p₁) env) (hline : (p₂.endLine == p₃.line) = true)
    (hsw : swapsWith (.Call (.Attribute (.Name x p₁) "insert" p₂) [e₁, e₂] [] p₃) none p₄.line env = pure false) (hq : Q .next Γ') :
    Ex1 T n env Γ (.Expr (.Call (.Attribute (.Name x p₁) "insert" p₂) [e₁, e₂] [] p₃) p₄) Q := ⟨fun {A s₀ d₀ own s E QQ} hA S h hx => by
  refine wpAny_Expr (wpAny_Call_method_lateS hbase ?_ hline ?_) (by unfold interactive; rw [S.eok.kind]; rfl) hsw
  · have h1 : (backTo p₃ (starEach [e₁, e₂] env)).all (fun x => !x.1) = true := by
      have := ha.plain p₃
      rw [List.any_eq_false] at this
      rw [List.all_eq_true]
      intro x hx
      have := this x hx
      simpa using this
    rw [h1]; rfl
  obtain ⟨a, vs, o, k, l, hxa, ho, hc, hdi, hdat, hall⟩ := own_list S hm
  refine ld_name S.eok.kind l (S.ok.nodebug x (List.mem_map_of_mem (f := fun p : Str × Slot => p.1) hm)) ?_
  refine ⟨"list", "list.insert", PySem.F.plainAttrs_list, PySem.F.slot_list_insert, PySem.F.type_list_insert, ⟨o, ho, hc⟩, fun b e => by cases e; exact ⟨o, ho, hdi⟩, callWith_machine (.inl ⟨_, rfl⟩) (ha.plain p₃) (evalArgs_any (ha.plain p₃) (ha.run hA S.rd fun vals s₂ k₂ r₂ => ?_))⟩
  cases r₂ with
  | cons r1 r2 =>
    cases r2 with
    | cons r2 r3 =>
      cases r3
      obtain ⟨u, rfl⟩ := Rep.int_inv r1
      rename_i y
      have S₂ := S.kp k₂
      have ho₂ := k₂.h.get ho (by rw [hc]; simp)
      obtain ⟨oc, od, odt, osl⟩ := o
      simp only at hc hdi hdat
      subst hc hdi hdat
      have hlen := hall.length
      have hz24 : sizeLine = 16777216 := rfl
      refine call_meets PySem.F.slot_list_insert ⟨_, ho₂, rfl⟩ PySem.F.entry_list_insert (PySem.F.args_list_insert_3 _ _ _) (meets_insert a vs.toArray k none osl i u y (by simp [Builtin.List.listFitsIndex]; omega) (by rw [List.size_toArray, hlen]; exact hz)) ⟨ho₂, ?_⟩
      obtain ⟨n', hd'⟩ := Obj.data_mapSeq (o := { cls := .type "list", dict := none, data := .seq vs.toArray k, slots := osl }) rfl (fun xs : Array Value => have k := if i < 0 then (i + (xs.size : Int)).toNat else min i.toNat xs.size; (xs.extract 0 k).push y ++ xs.extract k)
      have hk : (if i < 0 then (i + (vs.toArray.size : Int)).toNat else min i.toNat vs.toArray.size) = i.toNat := by
        rw [if_neg (by omega), List.size_toArray, hlen]; omega
      obtain ⟨S', P'⟩ := S₂.relist (vs' := vs.take i.toNat ++ y :: vs.drop i.toNat) hm hxa hp (Heap.SameBut.update ..) (Heap.get?_update_self _ ho₂ (Obj.isFreed_of_seq hd')) (Obj.cls_mapSeq ..) (by rfl) (by
        rw [hd']
        dsimp only
        rw [hk, kl_ins_eq]) (((hall.keeps k₂.h).take _).append (.cons r2 ((hall.keeps k₂.h).drop _)))
      exact h _ .next _ Γ' own S' ((Pres.of_kp k₂).trans (.refl _ _) P') (.refl _ _) trivial hq⟩
end
end Mine
end
section
open PySem PySem.Calls PyProof.Rows PySem.W
set_option linter.all false
namespace Mine
def BaseOk (N : Nat) (base : Heap) : Prop := ∀ b o, base.get? b = some o → o.cls ≠ .type "frame" ∨ b < N ∨ ∃ vs, o.data = .fields vs
theorem stays_kp {N : Nat} {base h h' : Heap} (B : BaseOk N base) (k : base.StaysIn h) (hk : KpH N h h') : base.StaysIn h' := fun b o e => by
  obtain ⟨sl, e2, f⟩ := hk b o (k b o e)
  rw [e2, f (B b o e)]
theorem ff_kp {N : Nat} {base h h' : Heap} {l : List Env} (hf : h.FunFrames base l) (hk : KpH N h h') : h'.FunFrames base l := hf.of_keeps fun b o e _ => let ⟨_, e', _⟩ := hk b o e; ⟨_, e', rfl⟩
theorem slots_kp {N : Nat} {h h' : Heap} (hk : KpH N h h') : h.UpToSlots h' := fun b o e _ => let ⟨sl, e', _⟩ := hk b o e; ⟨sl, e'⟩

structure XAt (base : Heap) (l : List Env) (s : Shared) (k : Addr) (ea : Addr) (s' : Shared) : Prop where
  same : ∃ h tk, s' = { s with heap := h, toks := tk }
  up : s.heap.UpToSlots s'.heap
  fly : (∃ a0, Heap.FlyingW base l ea (.ref k) a0 s'.heap) ∨ ∃ h vs, Heap.MadeExcOf h s'.heap ea (.ref k) vs ∧ base.StaysIn h ∧ h.FunFrames base l
theorem XAt.older {base : Heap} {l : List Env} {s₀ s s' : Shared} {k ea : Addr} (x : XAt base l s k ea s') (hs : ∃ h tk, s = { s₀ with heap := h, toks := tk }) (hu : s₀.heap.UpToSlots s.heap) : XAt base l s₀ k ea s' := by
  refine ⟨?_, hu.trans x.up, x.fly⟩
  obtain ⟨h, tk, rfl⟩ := hs
  obtain ⟨h', tk', rfl⟩ := x.same
  exact ⟨h', tk', rfl⟩
structure XFl (base : Heap) (l : List Env) (s : Shared) (k : Addr) (ea : Addr) (s' : Shared) : Prop where
  same : ∃ h tk, s' = { s with heap := h, toks := tk }
  up : s.heap.UpToSlots s'.heap
  fly : ∃ a0, Heap.FlyingW base l ea (.ref k) a0 s'.heap
theorem XFl.at {base : Heap} {l : List Env} {s s' : Shared} {k ea : Addr} (x : XFl base l s k ea s') : XAt base l s k ea s' := ⟨x.same, x.up, .inl x.fly⟩
theorem XFl.kp {N : Nat} {base : Heap} {l : List Env} {s₀ s s' : Shared} {k ea : Addr} (x : XFl base l s k ea s') (hk : Kp N s₀ s) : XFl base l s₀ k ea s' := by
  have hu := slots_kp hk.h
  obtain ⟨h, tk, rfl, _⟩ := hk
  refine ⟨?_, hu.trans x.up, x.fly⟩
  obtain ⟨h', tk', rfl⟩ := x.same
  exact ⟨h', tk', rfl⟩

structure CallsX (T : St) (n : Nat) (f : Addr) (xs : List Vl) (k : Addr) : Prop where
  run : ∀ {A : Around} {s : Shared} {E : Value → Shared → Prop} {Q : Value → Shared → Prop} {vals : List Value} {base : Heap} {l : List Env}, Amb n A → A.frames = some l → BaseOk T.N base → base.StaysIn s.heap → s.heap.FunFrames base l → Wd T s.heap → RepAs T.w s.heap vals xs →
    (∀ ea s', XFl base l s k ea s' → E (.ref ea) s') → wpAny T.M A (call (.ref f) vals) Q E s
def FunX (T : St) (n : Nat) (f : Str) (xs : List Vl) (k : Addr) : Prop := ∃ a fd, T.mg f = some (.ref a) ∧ FnAt T a fd ∧ CallsX T n a xs k
theorem CallsX.le {T : St} {n m : Nat} {f : Addr} {xs : List Vl} {k : Addr} (x : CallsX T m f xs k) (h : m ≤ n) : CallsX T n f xs k := ⟨fun hA => x.run (hA.le h)⟩

structure EvX (T : St) (n : Nat) (env : Env) (Γ : Gm) (e : PySem.Expr) (k : Addr) : Prop where
  run : ∀ {A : Around} {reg : Fl → Addr → Prop} {s : Shared} {E : Value → Shared → Prop} {Q : Value → Shared → Prop} {base : Heap} {l : List Env}, Amb n A → A.frames = some l → BaseOk T.N base → base.StaysIn s.heap → s.heap.FunFrames base l → Rd T env reg Γ s →
    (∀ ea s', XFl base l s k ea s' → E (.ref ea) s') → wpAny T.M A (eval e env) Q E s
section
variable {T : St} {n : Nat} {env : Env} {Γ : Gm}
theorem EvX.call {m : Nat} {f : Str} {p pos : Pos} {args : List PySem.Expr} {xs : List (Vl × Fl)} {ys : List Vl} {k : Addr} (hx : env.kindOf f = some .globalImplicit) (hd : (f == ("__debug__" : Str)) = false)
    (ha : EvA T n env Γ args xs) (hf : Fst xs ys) (hc : FunX T m f ys k) (hm : m ≤ n) : EvX T n env Γ (.Call (.Name f p) args [] pos) k := ⟨fun {A reg s E Q base l} hA hl B hb hff R h => by
  obtain ⟨a, fd, hg, ⟨o, ho, hdat⟩, hc⟩ := hc
  have e := hf.eq
  subst e
  refine Call_Name rfl (ld_global R hx hd hg (callWith_function (o := o) (fd := fd) (evalArgs_any (ha.plain pos) (ha.run hA R fun vals s₁ k₁ r₁ => ⟨⟨(R.wd.kp k₁.h).k a o ho, hdat⟩, ?_⟩))))
  exact (hc.le hm).run hA hl B (stays_kp B hb k₁.h) (ff_kp hff k₁.h) (R.wd.kp k₁.h) r₁.any fun ea s' x => h ea s' (x.kp k₁)⟩
theorem EvX.binR {l r : PySem.Expr} {op : Operator} {pos : Pos} {v : Vl} {fl : Fl} {k : Addr} (h₁ : Ev T n env Γ l v fl) (h₂ : EvX T n env Γ r k) : EvX T n env Γ (.BinOp l op r pos) k := ⟨fun {A reg s E Q base l} hA hl B hb hff R h =>
  wpAny_BinOp (h₁.run hA R fun a s₁ k₁ r₁ => h₂.run hA hl B (stays_kp B hb k₁.h) (ff_kp hff k₁.h) (R.kp k₁) fun ea s' x => h ea s' (x.kp k₁))⟩
end

structure Bl (T : St) (A : Around) (env : Env) (base : Heap) (outer : List Env) (s₀ : Shared) : Prop where
  fr : A.frames = some (env :: outer)
  ok : BaseOk T.N base
  stays : base.StaysIn s₀.heap
  ff : s₀.heap.FunFrames base outer
  own : env.frame = some env.locals
theorem Bl.at {T : St} {A : Around} {env : Env} {base : Heap} {outer : List Env} {s₀ s : Shared} {d₀ : Addr → Prop} {own : Own} {Γ : Gm} (B : Bl T A env base outer s₀) (S : SI T s₀ d₀ env own Γ s) : base.StaysIn s.heap ∧ s.heap.FunFrames base (env :: outer) := by
  obtain ⟨m, cm, F, _⟩ := S.frm
  refine ⟨stays_kp B.ok B.stays F.keep, .cons (by rw [S.eok.kind]; decide) B.own F.ns ?_ (ff_kp B.ff F.keep)⟩
  cases q : base.get? env.locals with
  | none => rfl
  | some o => have := B.stays _ o q; rw [F.newL] at this; cases this
theorem SI.older {T : St} {env : Env} {s₀ s : Shared} {d₀ : Addr → Prop} {own : Own} {Γ : Gm} (S : SI T s₀ d₀ env own Γ s) {base : Heap} {l : List Env} {k ea : Addr} {s' : Shared} (x : XAt base l s k ea s') : XAt base l s₀ k ea s' := by
  obtain ⟨m, cm, F, _⟩ := S.frm
  exact x.older F.same (slots_kp F.keep)

structure ExX (T : St) (n : Nat) (env : Env) (outer : List Env) (Γ : Gm) (ss : List Stmt) (Q : Fw → Gm → Prop) : Prop where
  run : ∀ {A : Around} {s₀ : Shared} {d₀ : Addr → Prop} {own : Own} {s : Shared} {E : Value → Shared → Prop} {QQ : Flow → Shared → Prop} {base : Heap}, Amb n A → Bl T A env base outer s₀ → SI T s₀ d₀ env own Γ s → PassesOwn T.M A env E →
    (∀ f f' s' Γ' own', SI T s₀ d₀ env own' Γ' s' → Pres T.N env own s s' → OwnLe own own' s → FlowRep T s₀ d₀ s' f f' → Q f' Γ' → QQ f s') →
    (∀ k ea s', XAt base (env :: outer) s₀ k ea s' → Q (.exc k) [] → E (.ref ea) s') → wpAny T.M A (execs ss env) QQ E s
structure ExX1 (T : St) (n : Nat) (env : Env) (outer : List Env) (Γ : Gm) (st : Stmt) (Q : Fw → Gm → Prop) : Prop where
  run : ∀ {A : Around} {s₀ : Shared} {d₀ : Addr → Prop} {own : Own} {s : Shared} {E : Value → Shared → Prop} {QQ : Flow → Shared → Prop} {base : Heap}, Amb n A → Bl T A env base outer s₀ → SI T s₀ d₀ env own Γ s → PassesOwn T.M A env E →
    (∀ f f' s' Γ' own', SI T s₀ d₀ env own' Γ' s' → Pres T.N env own s s' → OwnLe own own' s → FlowRep T s₀ d₀ s' f f' → Q f' Γ' → QQ f s') →
    (∀ k ea s', XAt base (env :: outer) s₀ k ea s' → Q (.exc k) [] → E (.ref ea) s') → wpAny T.M A (exec st env) QQ E s
def ThnX (T : St) (n : Nat) (env : Env) (outer : List Env) (rest : List Stmt) (Q : Fw → Gm → Prop) : Fw → Gm → Prop
  | .next, Γ => ExX T n env outer Γ rest Q
  | .brk, Γ => Q .brk Γ
  | .cont, Γ => Q .cont Γ
  | .ret d, Γ => Q (.ret d) Γ
  | .exc k, Γ => Q (.exc k) Γ
section
variable {T : St} {n : Nat} {env : Env} {outer : List Env} {Γ Γ' : Gm} {Q Q' : Fw → Gm → Prop}
theorem ExX.of {ss : List Stmt} (h : Ex T n env Γ ss Q) : ExX T n env outer Γ ss Q := ⟨fun hA B S hE hq hx => h.run hA S hq fun k e s' Γ' own' S' p o er q => er.elim⟩
theorem ExX1.of {st : Stmt} (h : Ex1 T n env Γ st Q) : ExX1 T n env outer Γ st Q := ⟨fun hA B S hE hq hx => h.run hA S hq fun k e s' Γ' own' S' p o er q => er.elim⟩
theorem ExX.nil (h : Q .next Γ) : ExX T n env outer Γ [] Q := .of (.nil h)
theorem ExX.cons {st : Stmt} {rest : List Stmt} (h : ExX1 T n env outer Γ st (ThnX T n env outer rest Q)) : ExX T n env outer Γ (st :: rest) Q := ⟨fun {A s₀ d₀ own s E QQ base} hA B S hE hq hx => by
  refine wpAny_execs_cons (h.run hA B S hE (fun f f' s' Γ' own' S' p o fr q => ?_) fun k ea s' x q => hx k ea s' x q)
  cases f' with
  | next =>
    cases f <;> first | exact fr.elim | skip
    exact ExX.run q hA B S' hE (fun g g' s'' Γ'' own'' S'' p' o' fr' q' => hq g g' s'' Γ'' own'' S'' (p.trans o p') (o.trans o' p) fr' q') hx
  | brk => cases f <;> first | exact fr.elim | exact hq _ .brk s' Γ' own' S' p o fr q
  | cont => cases f <;> first | exact fr.elim | exact hq _ .cont s' Γ' own' S' p o fr q
  | ret d => cases f <;> first | exact fr.elim | exact hq _ (.ret d) s' Γ' own' S' p o fr q
  | exc k => cases f <;> exact fr.elim⟩
theorem ExX.cons1 {st : Stmt} {rest : List Stmt} (h : Ex1 T n env Γ st (ThnX T n env outer rest Q)) : ExX T n env outer Γ (st :: rest) Q := .cons (.of h)
theorem ExX1.ite {test : PySem.Expr} {body orelse : List Stmt} {p : Pos} {b : Bool} (ht : IsT T n env Γ test b) (h₁ : b = true → ExX T n env outer Γ body Q) (h₂ : b = false → ExX T n env outer Γ orelse Q) : ExX1 T n env outer Γ (.If test body orelse p) Q := ⟨fun {A s₀ d₀ own s E QQ base} hA B S hE h hx => by
  refine wpAny_If (ht.run hA S.rd fun s₁ k₁ => ?_)
  have h' : ∀ f f' s' Γ' own', SI T s₀ d₀ env own' Γ' s' → Pres T.N env own s₁ s' → OwnLe own own' s₁ → FlowRep T s₀ d₀ s' f f' → Q f' Γ' → QQ f s' := fun f f' s' Γ' own' S' p o fr q =>
    h f f' s' Γ' own' S' ((Pres.of_kp k₁).trans (.refl _ _) p) ((OwnLe.refl own s).trans o (Pres.of_kp (env := env) k₁)) fr q
  cases b with
  | true => exact (h₁ rfl).run hA B (S.kp k₁) hE h' hx
  | false => exact (h₂ rfl).run hA B (S.kp k₁) hE h' hx⟩
theorem ExX1.whil {test : PySem.Expr} {body : List Stmt} {p : Pos} (I : Nat → Gm → Prop) (k : Nat) (h0 : I k Γ)
    (hturn : ∀ k Γ, I k Γ → ∃ b, IsT T n env Γ test b ∧ (b = true → ExX T n env outer Γ body (Turn I k Q)) ∧ (b = false → Q .next Γ)) : ExX1 T n env outer Γ (.While test body [] p) Q := ⟨fun {A s₀ d₀ own s E QQ base} hA B S hE h hx => by
  refine wpAny_While (codeAny_whileLoop (fun k s' => ∃ Γ' own', SI T s₀ d₀ env own' Γ' s' ∧ Pres T.N env own s s' ∧ OwnLe own own' s ∧ I k Γ') (fun k s' ⟨Γ', own', S', p', o', hI⟩ => ?_) k ⟨Γ, own, S, .of_kp (.refl _), .refl _ _, h0⟩)
  obtain ⟨b, ht, hb1, hb2⟩ := hturn k Γ' hI
  refine ht.run hA S'.rd fun s₂ k₂ => ?_
  have S₂ := S'.kp k₂
  have p₂ : Pres T.N env own s s₂ := p'.trans o' (.of_kp k₂)
  have o₂ : OwnLe own own' s := o'
  cases b with
  | true =>
    refine wpAny_passesOwn hE ((hb1 rfl).run hA B S₂ hE (fun f f' s₃ Γ₃ own₃ S₃ p₃ o₃ fr q => ?_) fun k ea s₃ x q => hx k ea s₃ x q)
    have p₄ := p₂.trans o₂ p₃
    have o₄ := o₂.trans o₃ p₂
    cases f' with
    | next => cases f <;> first | exact fr.elim | (obtain ⟨m, hm, hI'⟩ := q; exact ⟨m, hm, Γ₃, own₃, S₃, p₄, o₄, hI'⟩)
    | cont => cases f <;> first | exact fr.elim | (obtain ⟨m, hm, hI'⟩ := q; exact ⟨m, hm, Γ₃, own₃, S₃, p₄, o₄, hI'⟩)
    | brk => cases f <;> first | exact fr.elim | exact h _ .next s₃ Γ₃ own₃ S₃ p₄ o₄ trivial q
    | ret d => cases f <;> first | exact fr.elim | exact h _ (.ret d) s₃ Γ₃ own₃ S₃ p₄ o₄ fr q
    | exc e => cases f <;> exact fr.elim
  | false => exact wpAny_execs_nil (h _ .next s₂ Γ' own' S₂ p₂ o₂ trivial (hb2 rfl))⟩
theorem ExX1.assignX {x : Str} {p₁ p₂ : Pos} {e : PySem.Expr} {k : Addr} (he : EvX T n env Γ e k) (hs : swapsWith e (some (.Name x p₁)) p₂.line env = pure false) (hq : Q (.exc k) []) : ExX1 T n env outer Γ (.Assign [.Name x p₁] e p₂) Q := ⟨fun {A s₀ d₀ own s E QQ base} hA B S hE h hx => by
  have hb := B.at S
  exact wpAny_Assign_Name (he.run hA B.fr B.ok hb.1 hb.2 S.rd fun ea s' x => hx k ea s' (S.older x.at) hq) hs⟩
end

theorem ownTail_kp {N : Nat} {h h' : Heap} {bmB tl : List Value} (x : OwnTail h bmB tl) (hk : KpH N h h') : OwnTail h' bmB tl := by
  induction x with
  | base => exact .base
  | own hA hN hni _ ih => obtain ⟨sl, e, _⟩ := hk _ _ hA; exact .own e (hk.ns hN) hni ih
theorem RepVs.len {w : World} {h : Heap} {reg : Fl → Addr → Prop} {vs : List Value} {xs : List (Vl × Fl)} (r : RepVs w h reg vs xs) : vs.length = xs.length := by
  induction r with
  | nil => rfl
  | cons _ _ ih => simp [ih]
structure ExcCls (T : St) (x : Str) (C : Addr) : Prop where
  own : ∀ h : Heap, Wd T h → OwnCls x C [.type "ValueError", .type "Exception", .type "BaseException", .type "object"] "ValueError.__new__" T.mg h
section
variable {T : St} {n : Nat} {env : Env} {outer : List Env} {Γ : Gm} {Q : Fw → Gm → Prop}
theorem ExX1.raise {x : Str} {C : Addr} {np cpos pos : Pos} {args : List PySem.Expr} {xs : List (Vl × Fl)} (O : ExcCls T x C) (ha : EvA T n env Γ args xs) (hxs : xs.length ≤ 30) (hx' : env.kindOf x = some .globalImplicit) (hd : (x == ("__debug__" : Str)) = false) (hq : Q (.exc C) []) :
    ExX1 T n env outer Γ (.Raise (some (.Call (.Name x np) args [] cpos)) none pos) Q := ⟨fun {A s₀ d₀ own s E QQ base} hA B S hE h hx => by
  obtain ⟨tl, N, nm, q, bs, hdct, sn, sub, ab, col, dd, k0, k1, k2, k3, k5, mN, hC, hN, hni, TL⟩ := (O.own s.heap S.wd).obj
  refine wpAny_Raise_call_subT (C := C) (nm := nm) (q := q) (N := N) (bs := bs) (bm := tl) (hdct := hdct) (sn := sn) (sub := sub) (ab := ab) (col := col) (dd := dd) (k0 := k0) (k1 := k1) (k2 := k2) (k3 := k3) (k5 := k5)
    PySem.F.excBase_ValueError (mN := mN) (TL.hasType (by decide)) hA.handled (ha.plain cpos) hni (ld_global S.rd hx' hd (O.own s.heap S.wd).bound ⟨rfl, ?_⟩)
  refine evalArgs_any (ha.plain cpos) (ha.run hA S.rd fun vals s₁ k₁ r₁ => ?_)
  have hb := B.at (S.kp k₁)
  refine ⟨rfl, by show vals.length ≤ sizeLine; rw [r₁.len, sizeLine_is]; omega, k₁.h.get hC (by simp), k₁.h.ns hN, ownTail_kp TL k₁.h, fun h' e hm => hx C e _ ?_ hq⟩
  exact (S.kp k₁).older ⟨⟨h', s₁.toks, rfl⟩, .of_keeps hm.keeps, .inr ⟨s₁.heap, _, hm, hb.1, hb.2⟩⟩⟩
end
end Mine
end
section
open PySem PySem.Calls PyProof.Rows PySem.W
set_option linter.all false
namespace Mine
section
variable {T : St} {n : Nat} {env : Env} {outer : List Env} {Γ Γ' : Gm} {Q Q' : Fw → Gm → Prop}
theorem Ex1.tryOk {body : List Stmt} {h₀ : ExceptHandler} {hs : List ExceptHandler} {p : Pos} (h : Ex T n env Γ body Q) (hn : ∀ f Γ, Q f Γ → f ≠ .brk ∧ f ≠ .cont) : Ex1 T n env Γ (.Try body (h₀ :: hs) [] [] p) Q := ⟨fun {A s₀ d₀ own s E QQ} hA S hq hx => by
  refine wpAny_Try_except (h.run hA S (fun f f' s' Γ' own' S' p o fr q => ?_) fun k e s' Γ' own' S' p o er q => er.elim)
  cases f' with
  | next => cases f <;> first | exact fr.elim | exact wpAny_execs_nil (hq _ .next s' Γ' own' S' p o fr q)
  | brk => exact absurd rfl (hn _ _ q).1
  | cont => exact absurd rfl (hn _ _ q).2
  | ret d => cases f <;> first | exact fr.elim | exact hq _ (.ret d) s' Γ' own' S' p o fr q
  | exc k => cases f <;> exact fr.elim⟩
end
def EndsX (k : Addr) : Fw → Gm → Prop
  | .exc k', _ => k' = k
  | _, _ => False
end Mine
end
section
open PySem PySem.Calls PyProof.Rows PySem.W
set_option linter.all false
namespace Mine
structure CallsT (T : St) (n : Nat) (f : Addr) (xs : List Vl) (d : PyData) : Prop where
  run : ∀ {A : Around} {s : Shared} {E : Value → Shared → Prop} {Q : Value → Shared → Prop} {vals : List Value}, Amb n A → A.frames = some [] → s.heap.objs.size ≤ T.N → Wd T s.heap → RepAs T.w s.heap vals xs →
    (∀ val s', Kp T.N s s' → RepF T.w (fun a => ¬ False) s.heap s'.heap val d → Q val s') → wpAny T.M A (call (.ref f) vals) Q E s
def FunT (T : St) (n : Nat) (f : Str) (xs : List Vl) (d : PyData) : Prop := ∃ a fd, T.mg f = some (.ref a) ∧ FnAt T a fd ∧ CallsT T n a xs d
theorem FunX.def {T : St} {n : Nat} {f : Str} {a : Addr} {xs : List Vl} {k : Addr} {name qual : Str} {params : Arguments} {body : List Stmt} {scope : Scope} {dV kV doc pm cdv ct oc : Value} {an od : Option Addr} {osl : Array (Option Value)} {ps ls : List Str} {Γp : Gm}
    (G : Gd T) (hn : nsIn T.K mainGlobals f = some (some (.ref a))) (ho : T.K.lookup a = some ⟨oc, od, .func (fnOf name qual params body scope dV kV doc pm an cdv ct), osl⟩) (hcd : codeIn T.K cdv qual = true)
    (hb : Binds (fnOf name qual params body scope dV kV doc pm an cdv ct) ps) (hp : Prm ps xs Γp) (hok : GmOk (ps ++ ls)) (hk : ∀ x ∈ ps, scope.names.lookup x = some .local ∨ scope.names.lookup x = some .cell)
    (hsc : scope.kind = .function ∧ scope.isCoroutine = false ∧ scope.isGenerator = false)
    (h : ∀ (env : Env) (outer : List Env), env.scope = scope → ExX T n env outer (Γp ++ ls.map fun x => (x, none)) body (EndsX k)) : FunX T (n + 1) f xs k := by
  refine ⟨a, _, G.g f _ hn, ⟨_, ho, rfl⟩, ⟨fun {A s E Q vals base l} hA hAf BO hst hff hw hr hq => ?_⟩⟩
  have hlen : vals.length = ps.length := hr.length.trans hp.length
  have hnd : ((ps.zip vals).map (·.1)).Nodup := by rw [zip_names ps vals hlen]; exact (List.nodup_append.mp hok.nodup).1
  have hcs : ∀ k x, scope.names.lookup x = some .cell → ∃ c, (cellsFrom k scope.names []).lookup x = some c := fun k x e => Option.isSome_iff_exists.mp (cellsFrom_some scope.names k [] (.inl e))
  refine wpAny_call (codeAny_call_cells (fd := fnOf name qual params body scope dV kV doc pm an cdv ct) (body := body) (binds := ps.zip vals) (by have := hA.depth; omega) (hw.k a _ ho) rfl hw.lim (codeRec_of (fun b o e => hw.k b o e) hcd) rfl (hb vals hlen) rfl (fun x hx => ?_) (fun s₁ I => ?_) hsc.2.1 hsc.2.2 hsc.1)
  · have hxp : x.1 ∈ ps := by have := List.mem_map_of_mem (f := fun p : Str × Value => p.1) hx; rwa [zip_names ps vals hlen] at this
    rcases hk x.1 hxp with e | e
    · exact .inl e
    · exact .inr ⟨e, by obtain ⟨c, hc⟩ := hcs (s.heap.objs.size + 1) x.1 e; show ((cellsFrom _ scope.names []).lookup x.1).isSome = true; rw [hc]; rfl⟩
  · have hL : (callEnvC (fnOf name qual params body scope dV kV doc pm an cdv ct) s.heap.objs.size a).locals = s.heap.objs.size := rfl
    have hkd : ∀ x, (callEnvC (fnOf name qual params body scope dV kV doc pm an cdv ct) s.heap.objs.size a).kindOf x = scope.names.lookup x := fun _ => rfl
    have hfr : Frm T.N s (callEnvC (fnOf name qual params body scope dV kV doc pm an cdv ct) s.heap.objs.size a) (bindL (callEnvC (fnOf name qual params body scope dV kV doc pm an cdv ct) s.heap.objs.size a).kindOf (ps.zip vals) fun _ => none)
        (bindC (callEnvC (fnOf name qual params body scope dV kV doc pm an cdv ct) s.heap.objs.size a).kindOf (ps.zip vals) fun _ => none) s₁ :=
      ⟨I.toInCall.same, .of I.toInCall.keep, I.toInCall.ns, I.cell, Heap.get?_none_of_le (by rw [hL]; exact Nat.le_refl _), fun x c hc => by
        have this : s.heap.objs.size < c := I.above x c (mem_of_lookup hc)
        exact ⟨Heap.get?_none_of_le (Nat.le_of_lt this), Nat.ne_of_gt this⟩, I.apart⟩
    have S : SI T s (fun _ => False) (callEnvC (fnOf name qual params body scope dV kV doc pm an cdv ct) s.heap.objs.size a) (fun _ => none) (Γp ++ ls.map fun x => (x, none)) s₁ := by
      refine ⟨⟨hsc.1, rfl, rfl, fun x hx => hcs _ x hx⟩, ⟨fun x hx => hcs _ x hx⟩, ?_, hw, fun _ h => h.elim, fun x a e => (by cases e), fun x y a e => (by cases e), _, _, hfr, fun x v fl hm => ?_⟩
      · rw [List.map_append, hp.names]
        have : (ls.map fun x => ((x, none) : Str × Slot)).map (·.1) = ls := by rw [List.map_map]; exact List.map_id' ls
        rw [this]; exact hok
      · rcases List.mem_append.mp hm with hm | hm
        · obtain ⟨val, h1, h2, h3, h4⟩ := hp.get hr x v fl hm
          have hxp : x ∈ ps := by have := List.mem_map_of_mem (f := fun p : Str × Value => p.1) h1; rwa [zip_names ps vals hlen] at this
          refine ⟨val, ?_, ?_⟩
          · rcases hk x hxp with e | e
            · exact .inl ⟨e, bindL_get _ _ x val hnd h1 e⟩
            · exact .inr ⟨e, hcs _ x e, bindC_get _ _ x val hnd h1 (by rw [hkd, e]; simp)⟩
          · cases fl with
            | o => exact absurd rfl h3
            | c =>
              obtain ⟨d', rfl, hs⟩ := h4 rfl
              exact Rep.keeps (Rep.still h2 hs) hfr.keep
            | b =>
              refine RepV.keeps (RepV.mono (RepV.there h2) fun b hb => ⟨fun q => hb.2 ?_, fun y c hc q => hb.2 ?_, fun y => by simp⟩) hfr.keep
              · rw [q]; exact hfr.newL
              · rw [q]; exact (hfr.newC y c hc).1
        · obtain ⟨y, _, e⟩ := List.mem_map.mp hm
          cases e
    have B : Bl T (A.deeper (callEnvC (fnOf name qual params body scope dV kV doc pm an cdv ct) s.heap.objs.size a)) (callEnvC (fnOf name qual params body scope dV kV doc pm an cdv ct) s.heap.objs.size a) base l s := ⟨Around.frames_deeper hAf, BO, hst, hff, rfl⟩
    refine (h _ l rfl).run (hA.deeper _) B S PassesOwn.leaving (fun g g' s' Γ' own' S' p o fr q => ?_) fun k' ea s' x q => ?_
    · cases g' with
      | exc k' => cases g <;> exact fr.elim
      | next => exact q.elim
      | brk => exact q.elim
      | cont => exact q.elim
      | ret d => exact q.elim
    · have q' : k' = k := q
      subst q'
      rcases x.fly with ⟨a0, hfl⟩ | ⟨h₁, vs, hm, hs, hf⟩
      · refine wpAny_leaves_onW B.fr B.own hfl fun h' hfl' hup => hq ea _ ⟨?_, x.up.trans hup, _, hfl'⟩
        obtain ⟨h₂, tk, rfl⟩ := x.same; exact ⟨_, _, rfl⟩
      · refine wpAny_leaves_madeW B.fr B.own hs hf hm fun h' t hfl' _ _ hup => hq ea _ ⟨?_, x.up.trans hup, _, hfl'⟩
        obtain ⟨h₂, tk, rfl⟩ := x.same; exact ⟨_, _, rfl⟩
theorem FunT.def {T : St} {n : Nat} {f : Str} {a : Addr} {xs : List Vl} {d : PyData} {name qual : Str} {params : Arguments} {body : List Stmt} {scope : Scope} {dV kV doc pm cdv ct oc : Value} {an od : Option Addr} {osl : Array (Option Value)} {ps ls : List Str} {Γp : Gm}
    (G : Gd T) (hn : nsIn T.K mainGlobals f = some (some (.ref a))) (ho : T.K.lookup a = some ⟨oc, od, .func (fnOf name qual params body scope dV kV doc pm an cdv ct), osl⟩) (hcd : codeIn T.K cdv qual = true)
    (hb : Binds (fnOf name qual params body scope dV kV doc pm an cdv ct) ps) (hp : Prm ps xs Γp) (hok : GmOk (ps ++ ls)) (hk : ∀ x ∈ ps, scope.names.lookup x = some .local ∨ scope.names.lookup x = some .cell)
    (hsc : scope.kind = .function ∧ scope.isCoroutine = false ∧ scope.isGenerator = false)
    (h : ∀ env : Env, env.scope = scope → ExX T n env [] (Γp ++ ls.map fun x => (x, none)) body (Ends d)) : FunT T (n + 1) f xs d := by
  refine ⟨a, _, G.g f _ hn, ⟨_, ho, rfl⟩, ⟨fun {A s E Q vals} hA hAf hN hw hr hq => ?_⟩⟩
  have hlen : vals.length = ps.length := hr.length.trans hp.length
  have hnd : ((ps.zip vals).map (·.1)).Nodup := by rw [zip_names ps vals hlen]; exact (List.nodup_append.mp hok.nodup).1
  have hcs : ∀ k x, scope.names.lookup x = some .cell → ∃ c, (cellsFrom k scope.names []).lookup x = some c := fun k x e => Option.isSome_iff_exists.mp (cellsFrom_some scope.names k [] (.inl e))
  refine wpAny_call (codeAny_call_cells (fd := fnOf name qual params body scope dV kV doc pm an cdv ct) (body := body) (binds := ps.zip vals) (by have := hA.depth; omega) (hw.k a _ ho) rfl hw.lim (codeRec_of (fun b o e => hw.k b o e) hcd) rfl (hb vals hlen) rfl (fun x hx => ?_) (fun s₁ I => ?_) hsc.2.1 hsc.2.2 hsc.1)
  · have hxp : x.1 ∈ ps := by have := List.mem_map_of_mem (f := fun p : Str × Value => p.1) hx; rwa [zip_names ps vals hlen] at this
    rcases hk x.1 hxp with e | e
    · exact .inl e
    · exact .inr ⟨e, by obtain ⟨c, hc⟩ := hcs (s.heap.objs.size + 1) x.1 e; show ((cellsFrom _ scope.names []).lookup x.1).isSome = true; rw [hc]; rfl⟩
  · have hL : (callEnvC (fnOf name qual params body scope dV kV doc pm an cdv ct) s.heap.objs.size a).locals = s.heap.objs.size := rfl
    have hkd : ∀ x, (callEnvC (fnOf name qual params body scope dV kV doc pm an cdv ct) s.heap.objs.size a).kindOf x = scope.names.lookup x := fun _ => rfl
    have hfr : Frm T.N s (callEnvC (fnOf name qual params body scope dV kV doc pm an cdv ct) s.heap.objs.size a) (bindL (callEnvC (fnOf name qual params body scope dV kV doc pm an cdv ct) s.heap.objs.size a).kindOf (ps.zip vals) fun _ => none)
        (bindC (callEnvC (fnOf name qual params body scope dV kV doc pm an cdv ct) s.heap.objs.size a).kindOf (ps.zip vals) fun _ => none) s₁ :=
      ⟨I.toInCall.same, .of I.toInCall.keep, I.toInCall.ns, I.cell, Heap.get?_none_of_le (by rw [hL]; exact Nat.le_refl _), fun x c hc => by
        have this : s.heap.objs.size < c := I.above x c (mem_of_lookup hc)
        exact ⟨Heap.get?_none_of_le (Nat.le_of_lt this), Nat.ne_of_gt this⟩, I.apart⟩
    have S : SI T s (fun _ => False) (callEnvC (fnOf name qual params body scope dV kV doc pm an cdv ct) s.heap.objs.size a) (fun _ => none) (Γp ++ ls.map fun x => (x, none)) s₁ := by
      refine ⟨⟨hsc.1, rfl, rfl, fun x hx => hcs _ x hx⟩, ⟨fun x hx => hcs _ x hx⟩, ?_, hw, fun _ h => h.elim, fun x a e => (by cases e), fun x y a e => (by cases e), _, _, hfr, fun x v fl hm => ?_⟩
      · rw [List.map_append, hp.names]
        have : (ls.map fun x => ((x, none) : Str × Slot)).map (·.1) = ls := by rw [List.map_map]; exact List.map_id' ls
        rw [this]; exact hok
      · rcases List.mem_append.mp hm with hm | hm
        · obtain ⟨val, h1, h2, h3, h4⟩ := hp.get hr x v fl hm
          have hxp : x ∈ ps := by have := List.mem_map_of_mem (f := fun p : Str × Value => p.1) h1; rwa [zip_names ps vals hlen] at this
          refine ⟨val, ?_, ?_⟩
          · rcases hk x hxp with e | e
            · exact .inl ⟨e, bindL_get _ _ x val hnd h1 e⟩
            · exact .inr ⟨e, hcs _ x e, bindC_get _ _ x val hnd h1 (by rw [hkd, e]; simp)⟩
          · cases fl with
            | o => exact absurd rfl h3
            | c =>
              obtain ⟨d', rfl, hs⟩ := h4 rfl
              exact Rep.keeps (Rep.still h2 hs) hfr.keep
            | b =>
              refine RepV.keeps (RepV.mono (RepV.there h2) fun b hb => ⟨fun q => hb.2 ?_, fun y c hc q => hb.2 ?_, fun y => by simp⟩) hfr.keep
              · rw [q]; exact hfr.newL
              · rw [q]; exact (hfr.newC y c hc).1
        · obtain ⟨y, _, e⟩ := List.mem_map.mp hm
          cases e
    have B : Bl T (A.deeper (callEnvC (fnOf name qual params body scope dV kV doc pm an cdv ct) s.heap.objs.size a)) (callEnvC (fnOf name qual params body scope dV kV doc pm an cdv ct) s.heap.objs.size a) s.heap [] s :=
      ⟨Around.frames_deeper hAf, fun b o e => .inr (.inl (Nat.lt_of_lt_of_le (Heap.lt_size e) hN)), fun _ _ e => e, trivial, rfl⟩
    refine (h _ rfl).run (hA.deeper _) B S PassesOwn.leaving (fun g g' s' Γ' own' S' p o fr q => ?_) fun k' ea s' x q => q.elim
    obtain ⟨m, cm, F', _⟩ := S'.frm
    have hkp : Kp T.N s s' := by obtain ⟨h', tk, rfl⟩ := F'.same; exact ⟨h', tk, rfl, F'.keep⟩
    cases g' with
    | ret d' =>
      cases g <;> first | exact fr.elim | skip
      have : d' = d := q
      subst this
      exact hq _ s' hkp fr
    | next =>
      cases g <;> first | exact fr.elim | skip
      have : d = .none := q
      subst this
      exact hq _ s' hkp repF_none
    | brk => exact q.elim
    | cont => exact q.elim
    | exc k => exact q.elim
theorem FunX.defK {T : St} {K : Frag} {n : Nat} {f : Str} {a : Addr} {xs : List Vl} {k : Addr} {name qual : Str} {params : Arguments} {body : List Stmt} {scope : Scope} {dV kV doc pm cdv ct oc : Value} {an od : Option Addr} {osl : Array (Option Value)} {Γp : Gm}
    (G : GdK T K) (ps ls : List Str) (hn : nsIn K mainGlobals f = some (some (.ref a))) (ho : K.lookup a = some ⟨oc, od, .func (fnOf name qual params body scope dV kV doc pm an cdv ct), osl⟩) (hcd : codeIn K cdv qual = true)
    (hb : Binds (fnOf name qual params body scope dV kV doc pm an cdv ct) ps) (hp : Prm ps xs Γp) (hok : okNames (ps ++ ls) = true) (hk : okPrm scope ps = true)
    (hsc : scope.kind = .function ∧ scope.isCoroutine = false ∧ scope.isGenerator = false)
    (h : ∀ (env : Env) (outer : List Env), env.scope = scope → ExX T n env outer (Γp ++ ls.map fun x => (x, none)) body (EndsX k)) : FunX T (n + 1) f xs k :=
  FunX.def G.gd (by rw [G.k]; exact hn) (by rw [G.k]; exact ho) (by rw [G.k]; exact hcd) hb hp (okNames_ok hok) (okPrm_ok hk) hsc h
theorem FunT.defK {T : St} {K : Frag} {n : Nat} {f : Str} {a : Addr} {xs : List Vl} {d : PyData} {name qual : Str} {params : Arguments} {body : List Stmt} {scope : Scope} {dV kV doc pm cdv ct oc : Value} {an od : Option Addr} {osl : Array (Option Value)} {Γp : Gm}
    (G : GdK T K) (ps ls : List Str) (hn : nsIn K mainGlobals f = some (some (.ref a))) (ho : K.lookup a = some ⟨oc, od, .func (fnOf name qual params body scope dV kV doc pm an cdv ct), osl⟩) (hcd : codeIn K cdv qual = true)
    (hb : Binds (fnOf name qual params body scope dV kV doc pm an cdv ct) ps) (hp : Prm ps xs Γp) (hok : okNames (ps ++ ls) = true) (hk : okPrm scope ps = true)
    (hsc : scope.kind = .function ∧ scope.isCoroutine = false ∧ scope.isGenerator = false)
    (h : ∀ env : Env, env.scope = scope → ExX T n env [] (Γp ++ ls.map fun x => (x, none)) body (Ends d)) : FunT T (n + 1) f xs d :=
  FunT.def G.gd (by rw [G.k]; exact hn) (by rw [G.k]; exact ho) (by rw [G.k]; exact hcd) hb hp (okNames_ok hok) (okPrm_ok hk) hsc h
end Mine
end
section
open PySem PySem.Calls PyProof.Rows PySem.W
set_option linter.all false
namespace Mine
section
variable {T : St} {s₀ s s' : Shared} {d₀ : Addr → Prop} {env : Env} {own : Own} {Γ : Gm}
theorem SI.slots (S : SI T s₀ d₀ env own Γ s) (hs : ∃ h tk, s' = { s with heap := h, toks := tk }) (hk : ChgH T.N (· = env.locals) s.heap s'.heap) (hl : ∀ o, s.heap.get? env.locals = some o → ∃ sl, s'.heap.get? env.locals = some { o with slots := sl }) :
    SI T s₀ d₀ env own Γ s' ∧ Pres T.N env own s s' := by
  obtain ⟨m, cm, F, hn⟩ := S.frm
  have ntup : ∀ z, z = env.locals → NotTup s.heap z := fun z hz => May.notTup S z (.inl hz)
  refine ⟨⟨S.eok, S.cok, S.ok, S.wd0, S.d0, fun x a e => ?_, S.ownInj, m, cm, ⟨?_, fun b o e => ?_, ?_, fun y c hc => ?_, F.newL, F.newC, F.apart⟩, fun x v fl hm => ?_⟩, ⟨hs, hk.mono fun b hb => .inl hb, fun b e => ?_⟩⟩
  · obtain ⟨h1, h2, h3, o, h4, h5, h6, h7⟩ := S.ownNew x a e
    exact ⟨h1, h2, h3, o, hk.plain h4 h2 h7, h5, h6, h7⟩
  · obtain ⟨h, tk, rfl⟩ := F.same
    obtain ⟨h', tk', rfl⟩ := hs
    exact ⟨h', tk', rfl⟩
  · obtain ⟨sl, e1, f1⟩ := F.keep b o e
    obtain ⟨sl', e2, f2⟩ := hk b _ e1 fun q => by rw [show b = env.locals from q, F.newL] at e; cases e
    exact ⟨sl', e2, fun q => (f2 q).trans (f1 q)⟩
  · obtain ⟨o, es, ep, ho, hd, r⟩ := F.ns
    obtain ⟨sl, e⟩ := hl o ho
    exact ⟨_, es, ep, e, hd, r⟩
  · obtain ⟨o, ho, hd⟩ := F.cell y c hc
    obtain ⟨o', e, _, _, ed⟩ := hk.gets ho (F.newC y c hc).2
    exact ⟨o', e, ed.trans hd⟩
  · obtain ⟨val, l, r⟩ := hn x v fl hm
    refine ⟨val, l, ?_⟩
    cases fl with
    | c => exact RepV.chg r hk ntup fun a ha => ha.2.1
    | b => exact RepV.chg r hk ntup fun a ha => ha.1
    | o =>
      obtain ⟨d, a, as, e1, e2, e3, e4, e5, e6⟩ := r
      have hna : ∀ b ∈ a :: as, ¬ b = env.locals := fun b hb => by
        rcases List.mem_cons.mp hb with rfl | hb
        · exact (S.ownNew x _ e3).2.1
        · exact (e5 b hb).2.1
      exact ⟨d, a, as, e1, e2, e3, reads_chg hk ntup e4 hna, e5, e6.chg hk hna⟩
  · cases q : s.heap.get? b with
    | none => rfl
    | some o =>
      by_cases hb : b = env.locals
      · subst hb; obtain ⟨sl, e'⟩ := hl o q; rw [e] at e'; cases e'
      · obtain ⟨sl, e', _⟩ := hk b o q hb; rw [e] at e'; cases e'
end
open Classical in
noncomputable def hidden (N : Nat) (env : Env) (h : Heap) : List Addr := env.locals :: (List.range h.objs.size).filter fun b => decide (N ≤ b ∧ ∃ o, h.get? b = some o ∧ o.cls = .type "frame" ∧ ∀ vs, o.data ≠ .fields vs)
noncomputable def ground (N : Nat) (env : Env) (h : Heap) : Heap := hideAll h (hidden N env h)
theorem ground_get {N : Nat} {env : Env} {h : Heap} {b : Addr} {o : Obj} (e : h.get? b = some o) (hl : b ≠ env.locals) (hc : o.cls ≠ .type "frame" ∨ b < N ∨ ∃ vs, o.data = .fields vs) : (ground N env h).get? b = some o := by
  refine hideAll_get _ e fun q => ?_
  rcases List.mem_cons.mp q with q | q
  · exact hl q
  · have := (List.mem_filter.mp q).2
    simp only [decide_eq_true_eq] at this
    obtain ⟨h1, o', h2, h3, h4⟩ := this
    rw [e] at h2; cases h2
    rcases hc with h | h | ⟨vs, h⟩
    · exact h h3
    · exact Nat.not_lt.mpr h1 h
    · exact h4 vs h
theorem ground_ok {N : Nat} {env : Env} {h : Heap} : BaseOk N (ground N env h) := fun b o e => by
  have e' := of_hideAll _ e
  by_cases hb : b < N
  · exact .inr (.inl hb)
  · by_cases hf : ∃ vs, o.data = .fields vs
    · exact .inr (.inr hf)
    refine .inl fun hc => ?_
    have : (ground N env h).get? b = none := hideAll_none _ (.tail _ (List.mem_filter.mpr ⟨List.mem_range.mpr (Heap.lt_size e'), by simp only [decide_eq_true_eq]; exact ⟨Nat.not_lt.mp hb, o, e', hc, fun vs q => hf ⟨vs, q⟩⟩⟩))
    rw [e] at this; cases this
section
variable {T : St} {n : Nat} {env : Env} {Γ Γ' : Gm} {Q : Fw → Gm → Prop}
theorem SI.back {s₀ s s₁ : Shared} {h' : Heap} {d₀ : Addr → Prop} {own : Own} {ea k : Addr} {a0 : Value} (S : SI T s₀ d₀ env own Γ s) (hs : ∃ h tk, s₁ = { s with heap := h, toks := tk }) (hup : s.heap.UpToSlots h') (hfl : Heap.FlyingW (ground T.N env s.heap) [env] ea (.ref k) a0 h') :
    SI T s₀ d₀ env own Γ { s₁ with heap := h' } ∧ Pres T.N env own s { s₁ with heap := h' } := by
  refine S.slots ?_ (fun b o e hb => ?_) fun o e => ?_
  · obtain ⟨h, tk, rfl⟩ := hs; exact ⟨h', tk, rfl⟩
  · by_cases hc : o.cls ≠ .type "frame" ∨ b < T.N ∨ ∃ vs, o.data = .fields vs
    · exact ⟨o.slots, hfl.1 b o (ground_get e hb hc), fun _ => rfl⟩
    · obtain ⟨sl, e'⟩ := hup b o e fun vs q => hc (.inr (.inr ⟨vs, q⟩))
      exact ⟨sl, e', fun q => absurd q hc⟩
  · obtain ⟨m, cm, F, _⟩ := S.frm
    obtain ⟨o', es, ep, ho, hd, _⟩ := F.ns
    rw [ho] at e; cases e
    exact hup _ _ ho fun vs q => by rw [hd] at q; cases q
theorem excCls_of {K : Frag} (G : GdK T K) {x : Str} {C : Addr} (hn : nsIn K mainGlobals x = some (some (.ref C))) (hq : excIn K C [.type "ValueError", .type "Exception", .type "BaseException", .type "object"] "ValueError.__new__" = true) : ExcCls T x C := ⟨fun h W => by
  obtain ⟨p, loose, hfr⟩ := G.fr
  exact own_of_in (K := K) (p := p) (loose := loose) (fun b o e => W.k b o (by rw [G.k]; exact e)) ⟨W.g, W.b, W.lim, G.b, hfr⟩ hn hq⟩
end
end Mine
end
section
open PySem
set_option linter.all false
namespace Mine
theorem runs_toks {M : Model} {Γ : Ctx} {p : Pos} {t : Sem PySem.Fin} {fs : List Frame} {s s' : Shared} {e : End} (h : Runs M Γ p t fs s e s') : s.toks ≤ s'.toks := by
  induction h <;> first | exact Nat.le_refl _ | assumption | skip
  case fresh ih => exact Nat.le_of_succ_le ih
  case call ih1 ih2 => exact Nat.le_trans ih1 ih2
  case resumeFresh ih1 ih2 => exact Nat.le_trans ih1 ih2
  case resumeSuspended ih1 ih2 => exact Nat.le_trans ih1 ih2
  case segRet ih1 ih2 => exact Nat.le_trans ih1 ih2
  case segGen ih1 ih2 => exact Nat.le_trans ih1 ih2
  case segSuspGen ih1 ih2 => exact Nat.le_trans ih1 ih2
theorem wakes_toks {M : Model} {Γ : Ctx} {p : Pos} {g : Nat} {r : Resume} {s s' : Shared} {res : GenResult} (h : Wakes M Γ p g r s res s') : s.toks ≤ s'.toks := by
  unfold Wakes at h
  repeat' split at h
  all_goals first
    | exact h.elim
    | (obtain ⟨e₁, s₁, hr, h2, h3, h4⟩ := h; rw [h4]; have := runs_toks hr; exact this)
    | (obtain ⟨_, rfl⟩ := h; exact Nat.le_refl _)
theorem wp_toks {α : Type} {M : Model} {Γ : Ctx} (t : Sem α) {Q : α → Pos → Shared → Prop} {E : Value → Pos → Shared → Prop} : ∀ {k : Nat} {p : Pos} {s : Shared}, k ≤ s.toks → Sem.wp M Γ t Q E p s → Sem.wp M Γ t (fun a p' s' => Q a p' s' ∧ k ≤ s'.toks) (fun a p' s' => E a p' s' ∧ k ≤ s'.toks) p s := by
  induction t with
  | pure a => intro k p s hk h; exact ⟨h, hk⟩
  | raise e => intro k p s hk h; exact ⟨h, hk⟩
  | unsupported _ => intro k p s hk h; exact h
  | finish _ => intro k p s hk h; exact h
  | rule _ _ ih => intro k p s hk h; exact ih _ hk h
  | «at» _ _ ih => intro k p s hk h; exact ih _ hk h
  | load a _ _ ih => intro k p s hk h; obtain ⟨o, e, h⟩ := h; exact ⟨o, e, ih _ hk h⟩
  | update a _ f _ ih => intro k p s hk h; exact ⟨h.1, ih _ hk h.2⟩
  | loadIfAlive a _ ih => intro k p s hk h; exact ih _ hk h
  | point _ _ ih => intro k p s hk h; exact ih _ hk h
  | register _ _ _ => intro k p s hk h; exact h
  | alloc o _ ih => intro k p s hk h; exact ih _ hk h
  | fresh _ ih => intro k p s hk h; exact ih _ (Nat.le_succ_of_le hk) h
  | ask _ ih => intro k p s hk h; exact ih _ hk h
  | choose src n _ ih => intro k p s hk h; exact ⟨h.1, ih _ hk h.2⟩
  | os q _ _ ih => intro k p s hk h; exact ih _ hk h
  | call c hh g l kk ih =>
    intro k p s hk h
    obtain ⟨r, s', hr, h⟩ := h
    exact ⟨r, s', hr, ih r (Nat.le_trans hk (runs_toks hr)) h⟩
  | handled own _ ih => intro k p s hk h; exact ih _ hk h
  | genState g _ ih => intro k p s hk h; obtain ⟨o, e, h⟩ := h; exact ⟨o, e, ih _ hk h⟩
  | newGen c _ ih => intro k p s hk h; exact ih _ hk h
  | resume g r _ _ ih =>
    intro k p s hk h
    obtain ⟨res, s', hr, h⟩ := h
    exact ⟨res, s', hr, ih res (Nat.le_trans hk (wakes_toks hr)) h⟩
  | yield _ _ _ _ _ => intro k p s hk h; exact h
  | stack _ ih => intro k p s hk h; exact ih _ hk h
  | fork _ _ _ => intro k p s hk h; exact h
  | thread _ ih => intro k p s hk h; exact ih _ hk h
  | await _ _ _ _ _ _ => intro k p s hk h; exact h
theorem wpAny_toks {α : Type} {M : Model} {A : Around} {t : Sem α} {Q : α → Shared → Prop} {E : Value → Shared → Prop} {s : Shared} (h : wpAny M A t Q E s) : wpAny M A t (fun a s' => Q a s' ∧ s.toks ≤ s'.toks) (fun e s' => E e s' ∧ s.toks ≤ s'.toks) s :=
  fun Γ p hΓ => wp_toks t (Nat.le_refl _) (h Γ p hΓ)
end Mine
end
section
open PySem PySem.Calls PyProof.Rows PySem.W
set_option linter.all false
set_option maxRecDepth 100000
namespace Mine
theorem flat_splitC (c : Nat) : ∀ l : List Nat, (splitC c l).flatten = l.filter (fun x => x != c)
  | [] => rfl
  | x :: r => by
    have ih := flat_splitC c r
    have hne := splitC_ne c r
    unfold splitC
    generalize splitC c r = sp at ih hne ⊢
    cases sp with
    | nil => exact absurd rfl hne
    | cons y ys =>
      by_cases h : x = c
      · subst h; simp at ih ⊢; exact ih
      · simp [h] at ih ⊢; exact ih
theorem replace_mkS (l : List Nat) (c : Nat) : Txt.replace (mkS l) (mkS [c]) (mkS []) = mkS (l.filter fun x => x != c) := by
  have h := StrLaws.replace_one (mkS l) (mkS []) c
  have e : Txt.split (mkS l) ⟨#[c]⟩ = (splitC c l).map mkS := split_mkS l c
  rw [e, join_mkS, icat_nil, flat_splitC] at h
  exact h
section
variable {T : St} {n : Nat} {env : Env} {Γ Γ' : Gm} {Q : Fw → Gm → Prop}
structure EvFP (T : St) (n : Nat) (env : Env) (Γ : Gm) (e : PySem.Expr) (d : PyData) : Prop where
  run : ∀ {A : Around} {reg : Fl → Addr → Prop} {s : Shared} {E : Value → Shared → Prop} {Q : Value → Shared → Prop}, Amb n A → Rd T env reg Γ s → 0 < s.toks →
    (∀ val s', Kp T.N s s' → RepF T.w (reg .c) s.heap s'.heap val d → 0 < s'.toks → Q val s') → wpAny T.M A (eval e env) Q E s
theorem EvFP.of {e : PySem.Expr} {d : PyData} (x : EvF T n env Γ e d) : EvFP T n env Γ e d := ⟨fun {A reg s E Q} hA R ht h =>
  wpAny_mono (wpAny_toks (x.run (E := E) (Q := fun val s' => Kp T.N s s' ∧ RepF T.w (reg .c) s.heap s'.heap val d) hA R fun val s' k r => ⟨k, r⟩)) (fun v s' h' => h v s' h'.1.1 h'.1.2 (Nat.lt_of_lt_of_le ht h'.2)) fun _ _ e => e.1⟩
theorem EvFP.replace {o : PySem.Expr} {apos pos p₁ p₂ : Pos} {x y : Str} {k₁ k₂ : Nat} {l : List Nat} {c : Nat} (ho : EvFP T n env Γ o (.str (mkS l))) (hx : x = mkS [c]) (hy : y = mkS []) (hz : l.length ≤ 1000)
    (hbase : attributeBase o "replace" env (eval o env) = eval o env) (hline : (apos.endLine == pos.line) = true) :
    EvFP T n env Γ (.Call (.Attribute o "replace" apos) [.Constant (.str x) k₁ p₁, .Constant (.str y) k₂ p₂] [] pos) (.str (mkS (l.filter fun z => z != c))) := ⟨fun {A reg s E Q} hA R ht h => by
  subst hx hy
  refine wpAny_Call_method_lateS hbase (by rfl) hline (ho.run hA R ht fun ov s₁ kp₁ r₁ ht₁ => ?_)
  obtain ⟨t, rfl⟩ := Rep.str_inv r₁.rep
  refine ⟨"str", "str.replace", F.plainAttrs_str, F.slot_str_replace, F.type_str_replace, typeIs_str _ _ _, fun _ e => (nomatch e), callWith_machine (.inl ⟨_, rfl⟩) (by rfl) (evalArgs_any (by rfl) ?_)⟩
  show wpAny T.M A (spliced ((false, eval (.Constant (.str (mkS [c])) k₁ p₁) env) :: (false, eval (.Constant (.str (mkS [])) k₂ p₂) env) :: [])) _ E s₁
  refine spliced_cons (wpAny_mkText (spliced_cons (wpAny_mkText (spliced_nil ?_))))
  refine wpAny_mono (wpAny_toks (SC.replace (Q := fun v s' => ∃ t' k, v = .str (mkS (l.filter fun z => z != c)) t' ∧ s' = { s₁ with toks := k }) (Nat.ne_of_gt ht₁) (Nat.succ_ne_zero _) (Nat.ne_of_lt (Nat.lt_succ_self _)) (by
    have := beq_mkS [c] []; rw [this]; simp) (by rw [mkS_len]; show l.length + (l.length + 1) * 0 ≤ _; omega) fun t' k => ⟨t', k, by rw [replace_mkS], rfl⟩)) (fun v s' h' => ?_) fun _ _ e => e.1
  obtain ⟨⟨t', k, rfl, rfl⟩, hle⟩ := h'
  exact h _ _ (kp₁.trans (.tok _ _)) (repF_str ..) (Nat.lt_of_lt_of_le (Nat.succ_pos _) hle)⟩
theorem EvF.subP {e i : PySem.Expr} {pos : Pos} {l : List Nat} {k : Int} {f₂ : Fl} {c : Nat} (h₁ : EvFP T n env Γ e (.str (mkS l))) (h₂ : Ev T n env Γ i (.d (.int k)) f₂) (h0 : 0 ≤ k) (hc : l[k.toNat]? = some c) (hz : l.length ≤ sizeLine) (hp : ∀ o i', subscripted i false o i' = operate [o, i'] (getItem o i')) :
    EvFP T n env Γ (.Subscript e i pos) (.str (mkS [c])) := ⟨fun {A reg s E Q} hA R ht h =>
  Subscript_ (h₁.run hA R ht fun ov s₁ k₁ r₁ ht₁ => by
    refine wpAny_mono (wpAny_toks (h₂.run (E := E) (Q := fun v s' => Kp T.N s₁ s' ∧ RepV T.w (reg f₂) s'.heap v (.d (.int k))) hA (R.kp k₁) fun v s' k r => ⟨k, r⟩)) (fun ival s₂ h' => ?_) fun _ _ e => e.1
    obtain ⟨⟨k₂, r₂⟩, hle⟩ := h'
    obtain ⟨Ty, id, hl, hT, hg⟩ := (Sub.strL (T := T) (n := n) (fl := .c) h0 hc hz).run (E := fun e s' => E e s') (Q := fun v s' => Kp T.N s₂ s' ∧ Rep T.w (reg .c) s'.heap v (.str (mkS [c]))) hA ((R.regs.kp k₁.h).kp k₂.h) (RepV.keeps (x := .d _) r₁.rep k₂.h) r₂ fun val s₃ k₃ r₃ => ⟨k₃, r₃⟩
    refine tail_any hT hl (wpAny_mono (wpAny_toks hg) (fun v s₃ h'' => ?_) fun _ _ e => e.1) (hp _ _)
    obtain ⟨⟨k₃, r₃⟩, hle₃⟩ := h''
    exact h v s₃ ((k₁.trans k₂).trans k₃) (.of_still r₃ rfl) (by omega))⟩
theorem Ex1.itePos {l e : PySem.Expr} {op : CmpOp} {kk : Nat} {cp pos p rp : Pos} {orelse : List Stmt} {v₁ : Vl} {f₁ : Fl} {i : Int} {b : Bool} {d : PyData} (h₁ : Ev T n env Γ l v₁ f₁) (hb : Cmp T n op v₁ (.d (.int i)) b) (hm : behindInMarks op (.Constant (.int i) kk cp) = false)
    (ht : b = true → EvFP T n env Γ e d ∧ Q (.ret d) Γ) (hf : b = false → Ex T n env Γ orelse Q) : Ex1 T n env Γ (.If (.Compare l [op] [.Constant (.int i) kk cp] pos) [.Return (some e) rp] orelse p) Q := ⟨fun {A s₀ d₀ own s E QQ} hA S h hx => by
  refine wpAny_If (wpAny_isTrue_Compare1 (h₁.run hA S.rd fun x s₁ k₁ r₁ => wpAny_mkInt ?_) hm)
  have k₂ : Kp T.N s { s₁ with toks := s₁.toks + 1 } := k₁.trans (.tok _ _)
  refine wpAny_mono (wpAny_toks (hb.run (E := E) (R₂ := fun _ => True) (Q := fun v s' => v = .bool b ∧ Kp T.N { s₁ with toks := s₁.toks + 1 } s') hA (S.wd.kp k₂.h) (RepV.keeps r₁ (Kp.tok (N := T.N) s₁ (s₁.toks + 1)).h) (rep_int ..) fun s' k => ⟨rfl, k⟩)) (fun v s₃ h' => ?_) fun _ _ e => e.1
  obtain ⟨⟨rfl, k₃⟩, hle⟩ := h'
  have k := k₂.trans k₃
  have hpos : 0 < s₃.toks := Nat.lt_of_lt_of_le (Nat.succ_pos s₁.toks) hle
  refine truthy_b ?_
  cases b with
  | true =>
    obtain ⟨he, hq⟩ := ht rfl
    refine wpAny_execs_cons (wpAny_Return_some (he.run hA (S.kp k).rd hpos fun val s₄ k₄ r₄ _ => ?_))
    refine h _ (.ret d) s₄ Γ own ((S.kp k).kp k₄) (.of_kp (k.trans k₄)) (.refl _ _) ?_ hq
    obtain ⟨m, cm, F, _⟩ := (S.kp k).frm
    exact (r₄.older F.keep).mono fun a ha => ha.1
  | false =>
    exact (hf rfl).run hA (S.kp k) (fun f f' s' Γ' own' S' p o fr q => h f f' s' Γ' own' S' ((Pres.of_kp k).trans (.refl _ _) p) ((OwnLe.refl own s).trans o (Pres.of_kp (env := env) k)) fr q)
      fun k' e s' Γ' own' S' p o er q => er.elim⟩
end
end Mine
end
section
open PySem PySem.Calls PyProof.Rows PySem.W
set_option linter.all false
set_option maxRecDepth 100000
namespace Mine
theorem isi_nestedT {K : Frag} {M : Model} {A : Around} {E : Value → Shared → Prop} {s : Shared} {v t : Value} {X : String} {dep : Int} {tk : Tok} {Q : PySem.Fin → Shared → Prop} (Xk : K.In s.heap) (ht : Looks M s.heap (typeOf v) t) (hne : (t == Value.type X) = false)
    (e1 : typeOf (.type X) = pure (.type "type")) (e3 : subIn K t (.type X) = some true) (h : Q (.done (.ret (.bool true))) s) :
    wpAny M A (Builtin.«isinstance.nested» ⟨[v, .type X, .int dep tk], []⟩) Q E s := by
  obtain ⟨hh, g, d, tt, os⟩ := s
  unfold Builtin.«isinstance.nested»
  refine wpAny_bind (ht.at ?_)
  rw [if_neg (by rw [hne]; decide)]
  have L1 : Looks M hh (typeOf (.type X)) (.type "type") := Looks.of_pure e1
  have L2 : Looks M hh (isInstance (.type X) (.type "type")) true := L1.andThen (Looks.of_pure tc_sub)
  have L3 : Looks M hh (isInstance v (.type X)) true := ht.andThen (looks_subIn Xk e3)
  refine wpAny_bind (L1.at ?_)
  rw [if_pos (by decide)]
  k_delta "plainIsInstance"
  unfold isType
  repeat lk
  exact h
theorem isi_callT {K : Frag} {prog : Program} {w : World} {A : Around} {E : Value → Shared → Prop} {s : Shared} {v t : Value} {X : String} {Q : Value → Shared → Prop} (Xk : K.In s.heap) (ht : ∀ M, Looks M s.heap (typeOf v) t) (hne : (t == Value.type X) = false)
    (e1 : typeOf (.type X) = pure (.type "type")) (e3 : subIn K t (.type X) = some true) (hx : v ≠ .builtin "__main__.__loader__#opaque") (h : Q (.bool true) s) :
    wpAny (model prog w) A (call (.builtin "isinstance") [v, .type X]) Q E s :=
  call_isinstance (S := fun _ R s => (K.In s.heap ∧ ∀ M, Looks M s.heap (typeOf v) t) ∧ R (.ok (.ret (.bool true))) s) (fun _ _ _ _ _ hs => isinstance_outer (isi_nestedT hs.1.1 (hs.1.2 _) hne e1 e3 hs.2) hx) ⟨⟨Xk, ht⟩, h⟩
theorem looks_exc {h : Heap} {ea : Addr} {ob : Obj} {c : Value} (he : h.get? ea = some ob) (hc : ob.cls = c) (M : Model) : Looks M h (typeOf (.ref ea)) c := hc ▸ (Looks.ld he).andThen .now
theorem ty_ValueError : typeOf (.type "ValueError") = pure (.type "type") := by kernel_rfl
section
variable {T : St} {n : Nat} {env : Env} {Γ Γ' : Gm} {Q : Fw → Gm → Prop}
theorem ExX1.tryRet {K : Frag} {x nm cn du c₁ c₂ : Str} {p₁ p₂ p np pos q₁ q₂ q₃ q₄ q₅ r₁ r₂ r₃ r₄ t₁ t₂ t₃ t₄ : Pos} {e : PySem.Expr} {kk : Nat} {k C : Addr} {Y : String} (G : GdK T K) (he : EvX T n env Γ e k) (hsw : swapsWith e (some (.Name x p₁)) p₂.line env = pure false)
    (hcn : env.kindOf cn = some .globalImplicit) (hcd : (cn == ("__debug__" : Str)) = false) (hcg : T.mg cn = some (.ref C)) (hex : exmOne K (.ref k) (.ref C) = some true)
    (hnm : env.kindOf nm = some .local) (hnd : (nm == ("__debug__" : Str)) = false) (hdu : (du, some (.d .none, .c)) ∈ Γ) (hne : du ≠ nm)
    (hi : env.kindOf "isinstance" = some .globalImplicit) (hig : T.mg "isinstance" = none) (hib : T.mb "isinstance" = some (.builtin "isinstance"))
    (h1 : env.kindOf c₁ = some .globalImplicit) (h1d : (c₁ == ("__debug__" : Str)) = false) (h1g : T.mg c₁ = some (.ref k))
    (h2 : env.kindOf c₂ = some .globalImplicit) (h2d : (c₂ == ("__debug__" : Str)) = false) (h2g : T.mg c₂ = none) (h2b : T.mb c₂ = some (.type Y))
    (e1 : typeOf (.type Y) = pure (.type "type")) (e3 : subIn K (.ref k) (.type Y) = some true) (hq : Q (.ret (.bool true)) []) :
    ExX1 T n env [] Γ (.Try [.Assign [.Name x p₁] e p₂] [.ExceptHandler (some (.Name cn np)) (some nm) [.Return (some (.BoolOp .And [.Compare (.Name du q₁) [.Is] [.Constant .none kk q₂] q₃, .Call (.Name "isinstance" r₁) [.Name nm r₂, .Name c₁ r₃] [] r₄, .Call (.Name "isinstance" t₁) [.Name nm t₂, .Name c₂ t₃] [] t₄] q₄)) q₅] p] [] [] pos) Q := ⟨fun {A s₀ d₀ own s E QQ base} hA B S hE h hx => by
  obtain ⟨m, cm, F, hnames⟩ := S.frm
  have hff : s.heap.FunFrames (ground T.N env s.heap) [env] := .cons (by rw [S.eok.kind]; decide) B.own F.ns (hideAll_none _ (.head _)) trivial
  refine wpAny_Try_except (wpAny_execs_cons (wpAny_Assign_Name (he.run hA B.fr ground_ok (fun _ _ e => of_hideAll _ e) hff S.rd fun ea s' X => ?_) hsw))
  obtain ⟨a0, hfl⟩ := X.fly
  refine wpAny_looks_onW B.fr B.own hfl fun h₄ hheld₄ hsm₄ => ?_
  refine wpAny_landsW hheld₄ fun h₅ hfl₅ hsm₅ => ?_
  have up₅ := (X.up.trans hsm₄).trans hsm₅
  obtain ⟨S₅, P₅⟩ := S.back X.same up₅ hfl₅
  obtain ⟨ob, hob, hobc⟩ := hfl₅.there
  have inK : ∀ {h : Heap}, Wd T h → K.In h := fun W b o e => W.k b o (by rw [G.k]; exact e)
  refine wpAny_handleBy_cons (codeAny_handlers_test (ld_global S₅.rd hcn hcd hcg ?_)) (by intro q; cases q)
  refine exm_one (inK S₅.wd) (looks_exc hob hobc _) hex _ _ _ _ (fun _ _ e => e) ?_
  refine codeAny_handlers_suite_as (lands_againW hfl₅ fun h₆ hfl₆ hsm₆ => ?_)
  obtain ⟨S₆, P₆⟩ := S.back X.same (up₅.trans hsm₆) hfl₆
  obtain ⟨oe, ws, hoe, hoec, hoed, _⟩ := hfl₆.first
  obtain ⟨m₆, cm₆, F₆, hn₆⟩ := S₆.frm
  obtain ⟨vdu, ldu, rdu⟩ := hn₆ du _ _ hdu
  obtain rfl : vdu = .none := Rep.none_inv rdu
  refine store_wp F₆ S.eok S.cok (.inl hnm) fun s₇ m₇ cm₇ F₇ hlx hly hsame hchg halive => ?_
  have W₇ : Wd T s₇.heap := S.wd0.kp F₇.keep
  have heaL : ¬ (ea = env.locals ∨ ∃ y, env.cells.lookup y = some ea) := by
    rintro (q | ⟨y, q⟩)
    · obtain ⟨o, es, ep, ho, hd, _⟩ := F₆.ns
      have hoe' : ({ s' with heap := h₆ } : Shared).heap.get? ea = some oe := hoe
      rw [q, ho] at hoe'; cases hoe'; rw [hd] at hoed; cases hoed
    · obtain ⟨o, ho, hd⟩ := F₆.cell y ea q
      have hoe' : ({ s' with heap := h₆ } : Shared).heap.get? ea = some oe := hoe
      rw [ho] at hoe'; cases hoe'; rw [hd] at hoed; cases hoed
  obtain ⟨o₇, hea₇, hec₇, _, _⟩ := hchg.gets hoe heaL
  have hty : ∀ M, Looks M s₇.heap (typeOf (.ref ea)) (.ref k) := looks_exc hea₇ (hec₇.trans hoec)
  have nDu : NameIs env s₇.heap du .none := (hly du _ hne ldu).is F₇
  have nNm : NameIs env s₇.heap nm (.ref ea) := hlx.is F₇
  have hdd := S.ok.nodebug du (List.mem_map_of_mem (f := fun p : Str × Slot => p.1) hdu)
  have ldB : ∀ {A' : Around} {E' : Value → Shared → Prop} {QQ' : Value → Shared → Prop} {y : Str} {ps : Pos} {v : Value}, env.kindOf y = some .globalImplicit → (y == ("__debug__" : Str)) = false → T.mg y = none → T.mb y = some v → QQ' v s₇ → wpAny T.M A' (eval (.Name y ps) env) QQ' E' s₇ := fun hy hyd hyg hyb hq =>
    Name_function_global S.eok.kind hy (loadGlobal_builtin (by rw [S.eok.g]; exact W₇.g) hyg (by rw [S.eok.b]; exact W₇.b) hyb hq) hyd
  have ldG : ∀ {A' : Around} {E' : Value → Shared → Prop} {QQ' : Value → Shared → Prop} {y : Str} {ps : Pos} {v : Value}, env.kindOf y = some .globalImplicit → (y == ("__debug__" : Str)) = false → T.mg y = some v → QQ' v s₇ → wpAny T.M A' (eval (.Name y ps) env) QQ' E' s₇ := fun hy hyd hyg hq =>
    Name_function_global S.eok.kind hy (loadGlobal_global (by rw [S.eok.g]; exact W₇.g) hyg hq) hyd
  refine wpAny_execs_cons (wpAny_Return_some (BoolOp_and (wpAny_Compare1 (ld_name S.eok.kind nDu hdd (wpAny_pure (wpAny_is_self rfl (truthy_b ?_)))) (by rfl))))
  simp only [if_true]
  refine BoolOp_and (Call_Name rfl (ldB hi (by decide +kernel) hig hib (callWith_machine (.inl ⟨_, rfl⟩) (by rfl) (evalArgs_any (by rfl) ?_))))
  show wpAny T.M _ (spliced ((false, eval (.Name nm r₂) env) :: (false, eval (.Name c₁ r₃) env) :: [])) _ _ s₇
  refine spliced_cons (ld_name S.eok.kind nNm hnd (spliced_cons (ldG h1 h1d h1g (spliced_nil (isi_call (inK W₇) hty (by unfold isIn; simp) (by intro q; cases q) (truthy_b ?_))))))
  simp only [if_true]
  refine BoolOp_one (Call_Name rfl (ldB hi (by decide +kernel) hig hib (callWith_machine (.inl ⟨_, rfl⟩) (by rfl) (evalArgs_any (by rfl) ?_))))
  show wpAny T.M _ (spliced ((false, eval (.Name nm t₂) env) :: (false, eval (.Name c₂ t₃) env) :: [])) _ _ s₇
  refine spliced_cons (ld_name S.eok.kind nNm hnd (spliced_cons (ldB h2 h2d h2g h2b (spliced_nil (isi_callT (inK W₇) hty rfl e1 e3 (by intro q; cases q) ?_)))))
  refine wpAny_nameGoes hnm F₇.ns (by rw [S.eok.kind]; rfl) fun h' m' hns hsb => ?_
  refine h _ (.ret (.bool true)) _ [] (fun _ => none) ⟨S.eok, S.cok, ⟨by simp, by simp⟩, S.wd0, S.d0, fun _ _ e => (nomatch e), fun _ _ _ e => (nomatch e), m', cm₇, ⟨?_, fun b o e => ?_, hns, fun y c hc => ?_, F₇.newL, F₇.newC, F₇.apart⟩, fun _ _ _ hm => (nomatch hm)⟩ ⟨?_, ?_, fun b e => ?_⟩ (fun _ _ e => (nomatch e)) (repF_bool _) hq
  · obtain ⟨h7, tk7, rfl⟩ := F₇.same; exact ⟨_, _, rfl⟩
  · obtain ⟨sl, e1', f1⟩ := F₇.keep b o e
    exact ⟨sl, (hsb.2 b fun q => by rw [q, F₇.newL] at e; cases e).trans e1', f1⟩
  · exact (F₇.cell y c hc).sameBut hsb (F₇.newC y c hc).2
  · obtain ⟨h7, tk7, rfl⟩ := hsame
    obtain ⟨h8, tk8, rfl⟩ := X.same
    exact ⟨_, _, rfl⟩
  · have c1 : ChgH T.N (May env own) s.heap s₇.heap := P₆.2.1.trans hchg fun b o _ hb => hb.elim .inl fun q => .inr (.inl q)
    exact c1.trans (ChgH.of_but hsb) fun b o _ hb => .inl hb
  · refine P₆.2.2 b (halive b ?_)
    by_cases hb : b = env.locals
    · subst hb; obtain ⟨o, _, _, ho, _⟩ := hns
      have e' : h'.get? env.locals = none := e
      rw [ho] at e'; cases e'
    · exact (hsb.2 b hb).symm.trans e⟩
end
end Mine
end
open PySem PySem.W PySem.W.X PyProof.Rows
namespace Mine
open_top hd for PySem.Challenge.rw_uf060013_01
local macro_rules | `(tactic| walk_at "mMem") => `(tactic| ((repeat (first | (with_reducible exact List.mem_cons_self) | (with_reducible apply List.mem_cons_of_mem))); done))
local macro_rules | `(tactic| walk_at "mPut") => `(tactic| (repeat (first | (with_reducible exact Put.here) | (with_reducible apply Put.there))))
local macro_rules | `(tactic| walk_at "mKd") => `(tactic| first | exact kd (by assumption) rfl | exact rfl)
local macro_rules | `(tactic| walk_at "mLoc") => `(tactic| first | exact Or.inl (kd (by assumption) rfl) | exact Or.inr (kd (by assumption) rfl))
local macro_rules | `(tactic| walk_at "mG") => `(tactic| (refine (GdK.g (by assumption)) _ _ ?_; k_is))
local macro_rules | `(tactic| walk_at "mB") => `(tactic| exact (GdK.bi (by assumption)) rfl rfl)
local macro_rules | `(tactic| walk_at "mR") => `(tactic| with_unfolding_all rfl)
local macro_rules | `(tactic| walk_at "mThn") => `(tactic| (first | ((with_reducible show Thn _ _ _ _ _ _ _); dsimp only [Thn]) | ((with_reducible show TurnF _ _ _ _ _); dsimp only [TurnF]) | ((with_reducible show Turn _ _ _ _ _); dsimp only [Turn])))
local macro_rules | `(tactic| walk_at "mIt") => `(tactic| (with_reducible assumption))
local macro_rules | `(tactic| walk_at "m") => `(tactic| repeat' (first
  | ((first
  | ((((with_reducible apply Ev.name); (focus ((((repeat (first | (with_reducible exact List.mem_cons_self) | (with_reducible apply List.mem_cons_of_mem))); done)))))))
  | ((with_reducible apply Ev.ofF); (with_reducible apply EvF.cut))
  | (with_reducible apply Ev.sub)
  | (with_reducible apply Ev.ofF))) | ((first
  | (with_reducible exact EvF.kInt)
  | (with_reducible exact EvF.kS)
  | (with_reducible exact EvF.kBool)
  | (with_reducible exact EvF.kNone)
  | (with_reducible exact EvF.dict0)
  | (with_reducible apply EvF.neg)
  | ((with_reducible apply Ev.still); (focus ((((with_reducible apply Ev.name); (focus ((((repeat (first | (with_reducible exact List.mem_cons_self) | (with_reducible apply List.mem_cons_of_mem))); done)))))))); (focus ((with_unfolding_all rfl))))
  | ((with_reducible apply EvF.globS); (focus ((first | exact kd (by assumption) rfl | exact rfl))); (focus (((refine (GdK.g (by assumption)) _ _ ?_; k_is)))); (focus ((with_unfolding_all rfl))))
  | (with_reducible apply EvF.bin)
  | (with_reducible apply EvF.cmp)
  | (with_reducible apply EvF.not)
  | (with_reducible apply EvF.bo1)
  | (with_reducible apply EvF.and)
  | (with_reducible apply EvF.or)
  | (with_reducible apply EvF.cut)
  | ((with_reducible apply Ev.still); (with_reducible apply Ev.sub))
  | ((with_reducible apply EvF.isi); rotate_left; (focus ((first | exact kd (by assumption) rfl | exact rfl))); (focus (((refine (GdK.g (by assumption)) _ _ ?_; k_is)))); (focus ((exact (GdK.bi (by assumption)) rfl rfl))); (focus ((first | exact kd (by assumption) rfl | exact rfl))); (focus ((with_unfolding_all rfl))); (focus (((refine (GdK.g (by assumption)) _ _ ?_; k_is)))); (focus ((exact (GdK.bi (by assumption)) rfl rfl))); rotate_right)
  | ((with_reducible apply EvF.callB); (focus ((first | exact kd (by assumption) rfl | exact rfl))); (focus ((with_unfolding_all rfl))); (focus (((refine (GdK.g (by assumption)) _ _ ?_; k_is)))); (focus ((exact (GdK.bi (by assumption)) rfl rfl))); (focus (first | exact Or.inl ⟨_, rfl⟩ | exact Or.inr ⟨_, rfl⟩)))
  | ((with_reducible apply EvF.fnL); (focus ((first | exact kd (by assumption) rfl | exact rfl))); (focus ((with_unfolding_all rfl))))
  | (with_reducible apply EvF.meth)
  | (with_reducible apply EvF.listL)
  | (with_reducible apply EvF.tupleL))) | ((first
  | (with_reducible exact Bin.addI) | (with_reducible exact Bin.subI)
  | (with_reducible apply Bin.catS) | (with_reducible apply Bin.catL) | (with_reducible apply Bin.repL)
  | ((with_reducible apply Bin.modP); omega) | ((with_reducible apply Bin.divP) <;> omega)
  | ((with_reducible apply Bin.mulR) <;> omega) | ((with_reducible apply Bin.mulL) <;> omega))) | ((first
  | (with_reducible exact Cmp.eqI) | (with_reducible exact Cmp.neI) | (with_reducible exact Cmp.ltI) | (with_reducible exact Cmp.gtI) | (with_reducible exact Cmp.geI)
  | (with_reducible exact Cmp.eqL) | (with_reducible exact Cmp.neL) | (with_reducible exact Cmp.isNone) | (exact Cmp.inL rfl) | (exact Cmp.ninL rfl) | (with_reducible apply Cmp.eqPL) | (with_reducible apply Cmp.nePL))) | ((first
  | (with_reducible apply Sub.strL) | (with_reducible apply Sub.list) | (with_reducible apply Sub.tuple))) | ((first
  | (with_reducible exact EvA.nil)
  | (with_reducible apply EvA.cons)
  | (with_reducible exact EvL.nil)
  | (with_reducible apply EvL.cons))) | ((first
  | (with_reducible apply IsT.cmp)
  | (with_reducible apply IsT.not)
  | (with_reducible exact IsT.andNil) | (with_reducible exact IsT.orNil)
  | (with_reducible apply IsT.and) | (with_reducible apply IsT.or)
  | (with_reducible apply IsT.bool))) | ((first | (with_reducible exact Opt.none) | (with_reducible apply Opt.some))) | ((first | (with_reducible apply Cut.s) | (with_reducible apply Cut.l))) | ((first
  | (apply CallB.lenS) | (apply CallB.lenL) | (apply CallB.strI) | (exact CallB.intB) | (apply CallB.intS) | (apply CallB.listL) | (exact CallB.minI))) | ((first
  | (with_reducible apply Meth.index) | (with_reducible apply Meth.join) | (with_reducible apply Meth.split) | (with_reducible exact Meth.startswith))) | (exact IsA.str) | (exact IsA.list) | (exact IsA.tuple)
  | (with_reducible exact Put.here) | (with_reducible apply Put.there) | ((first | (with_reducible exact Fst.nil) | (with_reducible apply Fst.cons) | ((with_reducible show Fun _ _ _ _ _); walk_at "mC"))) | ((first
  | (with_reducible apply Ex.cons)
  | (with_reducible apply Ex.nil)
  | (with_reducible apply Ex1.ite)
  | (with_reducible apply Ex1.ret)
  | (with_reducible apply Ex1.retNone)
  | (with_reducible apply Ex1.cont)
  | (with_reducible apply Ex1.brk)
  | (with_reducible apply Ex1.assign)
  | ((with_reducible apply Ex1.append); (focus ((((repeat (first | (with_reducible exact List.mem_cons_self) | (with_reducible apply List.mem_cons_of_mem))); done))))))) | (((first | ((with_reducible show Thn _ _ _ _ _ _ _); dsimp only [Thn]) | ((with_reducible show TurnF _ _ _ _ _); dsimp only [TurnF]) | ((with_reducible show Turn _ _ _ _ _); dsimp only [Turn])))) | ((((with_reducible show _ = _ → _); intro))) | ((first
  | ((with_reducible show behindInMarks _ _ = false); (with_unfolding_all rfl))
  | ((with_reducible show starEach _ _ = _); (with_unfolding_all rfl))
  | ((with_reducible show swapsWith _ _ _ _ = _); (with_unfolding_all rfl))
  | ((with_reducible show attributeBase _ _ _ _ = _); (with_unfolding_all rfl))
  | ((with_reducible show decide (List.length _ < 30) = true); (with_unfolding_all rfl))
  | ((with_reducible show (_ == _) = true); (with_unfolding_all rfl))
  | (intro _ _; (with_reducible show subscripted _ _ _ _ = _); (with_unfolding_all rfl))
  | (intro _; (with_reducible show isTrue _ _ _ = _); (with_unfolding_all rfl))
  | ((with_reducible show still _ = true); (with_unfolding_all rfl))
  | ((with_reducible show Env.kindOf _ _ = some .local ∨ _); (first | exact Or.inl (kd (by assumption) rfl) | exact Or.inr (kd (by assumption) rfl)))
  | ((with_reducible show Fl.c = Fl.c ∨ _); exact Or.inl rfl)
  | ((with_reducible show _ = Fl.c ∨ stillAll (List.map PyData.int _) = true); exact Or.inr (stillAll_ints _))
  | ((with_reducible show _ = Fl.c ∨ stillAll (List.map (fun x => PyData.str (mkS x)) _) = true); exact Or.inr (still_PL _))
  | ((with_reducible show _ ≤ sizeLine); (first | (rw [sizeLine_is]; (try simp only [List.length_append, List.length_map, List.length_cons, List.length_nil, rangeD_length, List.length_range, List.length_singleton]); omega) | decide +kernel))
  | ((with_reducible show (_ : Nat) ≤ _); omega)
  | ((with_reducible show (_ : Int) ≤ _); omega)
  | ((with_reducible show (_ : Int) < _); omega)
  | ((with_reducible show _[_]? = some _); walk_at "mIt")))))
local macro_rules | `(tactic| walk_at "mDef") => `(tactic| ((try simp only [List.map_nil, List.map_cons, List.cons_append, List.nil_append])))
local macro_rules | `(tactic| walk_at "mItr") => `(tactic| first
  | (refine Itr.range (fl := Fl.c) (by (first | exact kd (by assumption) rfl | exact rfl)) (by ((refine (GdK.g (by assumption)) _ _ ?_; k_is))) (by (exact (GdK.bi (by assumption)) rfl rfl)) ?_ (by omega) (by omega) (by (with_unfolding_all rfl)); walk_at "m")
  | (refine Itr.list ?_ (by intro _; (with_unfolding_all rfl)); walk_at "m"))
local macro_rules | `(tactic| walk_at "mPrm") => `(tactic| ((repeat (first | (with_reducible exact Prm.nil) | (apply Prm.c; (focus ((with_unfolding_all rfl)))) | (with_reducible apply Prm.b))); done))
local macro_rules | `(tactic| walk_at "mBinds") => `(tactic| first | exact Binds.of1 (fun _ => rfl) | exact Binds.of2 (fun _ _ => rfl) | exact Binds.of0 rfl | exact Binds.of3 (fun _ _ _ => rfl) | exact Binds.of4 (fun _ _ _ _ => rfl))

abbrev GK (T : St) : Prop := GdK T (hd.heap_39 T.w.params)
theorem s1 : (Str.ofString "~").cps.toList = [126] := by decide +kernel
theorem s6 : (Str.ofString "").cps.toList = [] := by decide +kernel
def FRONT : List Nat := (Str.ofString " !\"#$&'()*+,-./0123456789:;<=>?@ABCDEFGHIJKLMNOPQRSTUVWXYZ[\\]^_`").cps.toList
def SIGNS : List Nat := (Str.ofString "abcdefghijklmnopqrstuvwxyz{|}~").cps.toList
section
variable {T : St} (G : GK T)
include G
theorem law_of_spec {ns : List Int} {k : Int} (hns : ns.length ≤ 63) (h0 : 0 ≤ k) : Fun T 1 "_law_of" [.d (.list (ns.map .int)), .d (.int k)] (.int (ns.getD k.toNat 0)) := by
  refine Fun.defK G ["_law_script", "_law_k"] [] (by k_is) (by k_is) (by k_is) (by walk_at "mBinds") (by walk_at "mPrm") (by rfl) (by rfl) ⟨rfl, rfl, rfl⟩ (fun env he => ?_)
  walk_at "mDef"
  have hc := pyCut_le (some k) (some (k + 1)) (ns.map PyData.int)
  rw [List.length_map] at hc
  walk_at "m"
  · exact of_item ns k h0
  · rfl
  · rfl
theorem law_signs_spec : Fun T 1 "_law_signs" [] (.str (mkS signsL)) := by
  refine Fun.defK G [] ["_law_some"] (by k_is) (by k_is) (by k_is) (by walk_at "mBinds") (by walk_at "mPrm") (by rfl) (by rfl) ⟨rfl, rfl, rfl⟩ (fun env he => ?_)
  walk_at "mDef"
  walk_at "m"
  exact Ends.str (by decide +kernel)
end
local macro_rules | `(tactic| walk_at "mC") => `(tactic| exact law_signs_spec (by assumption))
local macro_rules | `(tactic| walk_at "mC") => `(tactic| exact law_of_spec (by assumption) (by assumption) (by omega))
abbrev CB : Addr := 37
def Good (l : List Nat) (p q : Nat) : Prop := l = [p, q] ∧ isDig p = true ∧ isDig q = true ∧ val2 p q ≤ 93
theorem front_len : FRONT.length = 64 := by decide +kernel
theorem signs_len : SIGNS.length = 30 := by decide +kernel
theorem front_signs : FRONT ++ SIGNS = signsL := by decide +kernel
theorem dig_all {p q : Nat} (h1 : isDig p = true) (h2 : isDig q = true) : NumText.AllDigits [p, q] := by
  simp only [isDig, Bool.and_eq_true, decide_eq_true_eq] at h1 h2
  intro c hc
  simp only [List.mem_cons, List.not_mem_nil, or_false] at hc
  rcases hc with rfl | rfl <;> omega
theorem dig_val (p q : Nat) : NumText.digitsVal [p, q] = val2 p q := by
  show (0 * 10 + (p - 48)) * 10 + (q - 48) = val2 p q
  unfold val2; omega
theorem fig_test (p q : Nat) : (!(isDig p && isDig q)) = (((([p, q].length : Nat) : Int) != 2) || (!decide (p ∈ (Str.ofString "0123456789").cps.toList) || (!decide (q ∈ (Str.ofString "0123456789").cps.toList) || false))) := by
  rw [digits_is, digits_is]
  cases isDig p <;> cases isDig q <;> rfl
section
variable {T : St} (G : GK T)
include G
theorem bad_cls : ExcCls T "BadEscape" CB := excCls_of G (by k_is) (by with_unfolding_all rfl)
theorem sign_of_ok {p q : Nat} (h1 : isDig p = true) (h2 : isDig q = true) (h3 : val2 p q ≤ 93) : Fun T 1 "sign_of" [.d (.str (mkS [p, q]))] (.str (mkS [sgn (val2 p q)])) := by
  refine Fun.defK G ["figures"] ["number"] (by k_is) (by k_is) (by k_is) (by walk_at "mBinds") (by walk_at "mPrm") (by rfl) (by rfl) ⟨rfl, rfl, rfl⟩ (fun env he => ?_)
  walk_at "mDef"
  have hd := dig_all h1 h2
  have hv := dig_val p q
  have i0 : [p, q][Int.toNat 0]? = some p := rfl
  have i1 : [p, q][Int.toNat 1]? = some q := rfl
  have hF := front_len
  have hS := signs_len
  have hit : (FRONT ++ SIGNS)[val2 p q]? = some (sgn (val2 p q)) := by rw [front_signs]; exact signsL_at (by omega)
  generalize val2 p q = v at h3 hv hit ⊢
  have j0 : v < 64 → FRONT[Int.toNat (v : Int)]? = some (sgn v) := fun h => by
    rw [Int.toNat_natCast, ← hit, List.getElem?_append_left (by omega)]
  have j1 : ¬ v < 64 → SIGNS[Int.toNat ((v : Int) - (FRONT.length : Int))]? = some (sgn v) := fun h => by
    rw [← hit, List.getElem?_append_right (by omega)]
    congr 1; omega
  unfold FRONT at hF j0 j1
  unfold SIGNS at hS j1
  refine Ex.cons (Ex1.ite (b := !(isDig p && isDig q)) (by rw [fig_test]; walk_at "m") (fun h => by rw [h1, h2] at h; cases h) (fun _ => ?_))
  refine Ex.nil (show Ex _ _ _ _ _ _ from ?_)
  refine Ex.cons (Ex1.assign (d := .int v) (by rw [← hv]; walk_at "m" <;> first | exact hd | (exfalso; contradiction) | exact (show 2 ≤ 640 by decide)) (by walk_at "mPut") (by walk_at "mLoc") (by walk_at "mR") (show Ex _ _ _ _ _ _ from ?_))
  refine Ex.cons (Ex1.ite (b := false) (by rw [show false = decide ((v : Int) ≥ 64 + 30) from (decide_eq_false (by omega)).symm, ← show ((64 : Nat) : Int) = 64 from rfl, ← show ((30 : Nat) : Int) = 30 from rfl, ← hF, ← hS]; walk_at "m") (fun h => nomatch h) (fun _ => ?_))
  refine Ex.nil (show Ex _ _ _ _ _ _ from ?_)
  refine Ex.cons (Ex1.ite (b := decide ((v : Int) < ((64 : Nat) : Int))) (by rw [← hF]; walk_at "m") (fun h => ?_) (fun h => ?_))
  · have j := j0 (by have := of_decide_eq_true h; omega)
    clear j0 j1
    walk_at "m"
    exact Ends.str rfl
  · have h' : ¬ v < 64 := by have := of_decide_eq_false h; omega
    have j := j1 h'
    clear j0 j1
    walk_at "m"
    exact Ends.str rfl
theorem sign_of_bad {l : List Nat} (hl : l.length ≤ 2) (hb : ∀ p q, ¬ Good l p q) : FunX T 1 "sign_of" [.d (.str (mkS l))] CB := by
  refine FunX.defK G ["figures"] ["number"] (by k_is) (by k_is) (by k_is) (by walk_at "mBinds") (by walk_at "mPrm") (by rfl) (by rfl) ⟨rfl, rfl, rfl⟩ (fun env outer he => ?_)
  walk_at "mDef"
  have hF := front_len
  have hS := signs_len
  unfold FRONT at hF
  unfold SIGNS at hS
  by_cases h2 : l.length = 2
  · obtain ⟨p, q, rfl⟩ : ∃ p q, l = [p, q] := by
      match l, h2 with
      | [p, q], _ => exact ⟨p, q, rfl⟩
    have i0 : [p, q][Int.toNat 0]? = some p := rfl
    have i1 : [p, q][Int.toNat 1]? = some q := rfl
    refine ExX.cons (ExX1.ite (b := !(isDig p && isDig q)) (by rw [fig_test]; walk_at "m") (fun h => ?_) (fun h => ?_))
    · exact ExX.cons (ExX1.raise (bad_cls G) (xs := [(.d _, .c)]) (EvA.cons (Ev.ofF EvF.kS) EvA.nil (by walk_at "mR")) (by simp) (by walk_at "mKd") (by walk_at "mR") rfl)
    · have hd2 : isDig p = true ∧ isDig q = true := by
        cases hp : isDig p <;> cases hq : isDig q <;> rw [hp, hq] at h <;> simp at h
        exact ⟨rfl, rfl⟩
      have hd := dig_all hd2.1 hd2.2
      have hv := dig_val p q
      have h94 : ¬ val2 p q ≤ 93 := fun h => hb p q ⟨rfl, hd2.1, hd2.2, h⟩
      generalize val2 p q = v at hv h94
      refine ExX.nil (show ExX _ _ _ _ _ _ _ from ?_)
      refine ExX.cons1 (Ex1.assign (d := .int v) (by rw [← hv]; walk_at "m" <;> first | exact hd | (exfalso; contradiction) | exact (show 2 ≤ 640 by decide)) (by walk_at "mPut") (by walk_at "mLoc") (by walk_at "mR") (show ExX _ _ _ _ _ _ _ from ?_))
      refine ExX.cons (ExX1.ite (b := true) (by rw [show true = decide ((v : Int) ≥ 64 + 30) from (decide_eq_true (by omega)).symm, ← show ((64 : Nat) : Int) = 64 from rfl, ← show ((30 : Nat) : Int) = 30 from rfl, ← hF, ← hS]; walk_at "m") (fun _ => ?_) (fun h => nomatch h))
      exact ExX.cons (ExX1.raise (bad_cls G) (xs := [(.d _, .c)]) (EvA.cons (Ev.ofF EvF.kS) EvA.nil (by walk_at "mR")) (by simp) (by walk_at "mKd") (by walk_at "mR") rfl)
  · refine ExX.cons (ExX1.ite (b := true) ?_ (fun _ => ?_) (fun h => nomatch h))
    · have e : ((l.length : Int) != 2) = true := by simp; omega
      rw [show true = (((l.length : Int) != 2) || true) by rw [Bool.or_true]]
      exact IsT.or (by walk_at "m") (fun h => by rw [e] at h; cases h)
    · exact ExX.cons (ExX1.raise (bad_cls G) (xs := [(.d _, .c)]) (EvA.cons (Ev.ofF EvF.kS) EvA.nil (by walk_at "mR")) (by simp) (by walk_at "mKd") (by walk_at "mR") rfl)
end
local macro_rules | `(tactic| walk_at "mC") => `(tactic| (with_reducible assumption))
section
variable {T : St} (G : GK T)
include G
theorem name_of_ok {l x : List Nat} (hx : readL l = some x) (hz : l.length ≤ 1000000) : Fun T 2 "name_of" [.d (.str (mkS l))] (.str (mkS x)) := by
  refine Fun.defK G ["part"] ["found", "at"] (by k_is) (by k_is) (by k_is) (by walk_at "mBinds") (by walk_at "mPrm") (by rfl) (by rfl) ⟨rfl, rfl, rfl⟩ (fun env he => ?_)
  walk_at "mDef"
  walk_at "m"
  rw [s6]
  refine Ex1.whil (fun m Γ => ∃ (k : Nat) (acc : List Nat), k ≤ l.length ∧ m = l.length - k ∧ acc.length ≤ k ∧ readL l = (readL (l.drop k)).map (acc ++ ·) ∧
    Γ = ([("part", some (.d (.str (mkS l)), .c)), ("found", some (.d (.str (mkS acc)), .c)), ("at", some (.d (.int (k : Int)), .c))] : Gm)) l.length ⟨0, [], by omega, by omega, by simp, by simp, rfl⟩ (fun m Γ hΓ => ?_)
  obtain ⟨k, acc, hk, rfl, hacc, hread, rfl⟩ := hΓ
  refine ⟨decide ((k : Int) < (l.length : Int)), by walk_at "m", fun hb => ?_, fun hb => ?_⟩
  · have hb' : k < l.length := by have := of_decide_eq_true hb; omega
    clear hb
    have hat : l[Int.toNat (k : Int)]? = some (l.getD k 0) := by simp [List.getD, hb']
    have hdrop : l.drop k = l.getD k 0 :: l.drop (k + 1) := by
      rw [List.drop_eq_getElem_cons hb']; simp [List.getD, hb']
    generalize l.getD k 0 = c at hat hdrop
    have hsz : ∀ y : Nat, acc.length + [y].length ≤ sizeLine := fun y => by rw [sizeLine_is, List.length_singleton]; omega
    refine Ex.cons (Ex1.ite (b := decide (c = 126)) ?_ (fun hm => ?_) (fun hm => ?_))
    · have e : decide (c = 126) = decide ([c] = (Str.ofString "~").cps.toList) := by rw [s1]; simp
      rw [e]
      walk_at "m"
    · have hc : c = 126 := of_decide_eq_true hm
      subst hc
      clear hm
      have hcut : pyCut (some ((k : Int) + 1)) (some ((k : Int) + 3)) l = (l.drop (k + 1)).take 2 := by
        rw [pyCut_ab _ _ _ (by omega) (by omega)]
        rw [show ((k : Int) + 1).toNat = k + 1 by omega, show ((k : Int) + 3).toNat - (k + 1) = 2 by omega]
      rcases Classical.em (∃ p q r, l.drop (k + 1) = p :: q :: r ∧ isDig p = true ∧ isDig q = true ∧ val2 p q ≤ 93) with ⟨p, q, r, hr, g1, g2, g3⟩ | hbad
      · have hso := sign_of_ok G g1 g2 g3
        have hf : Fun T 1 "sign_of" [.d (.str (mkS (pyCut (some ((k : Int) + 1)) (some ((k : Int) + 3)) l)))] (.str (mkS [sgn (val2 p q)])) := by
          rw [hcut, hr]; exact hso
        have hl3 : k + 3 ≤ l.length := by
          have := congrArg List.length hr
          simp only [List.length_drop, List.length_cons] at this
          omega
        have hdr : l.drop (k + 3) = r := by
          rw [show k + 3 = (k + 1) + 2 by omega, ← List.drop_drop, hr]; rfl
        walk_at "m"
        refine ⟨l.length - (k + 3), by omega, k + 3, acc ++ [sgn (val2 p q)], by omega, rfl, by simp; omega, ?_, rfl⟩
        rw [hread, hdrop, hr, hdr, readL_esc r g1 g2 g3]
        cases readL r <;> simp
      · exfalso
        rw [hread, hdrop, readL_bad] at hx
        · cases hx
        · intro p q r e h1 h2 h3
          exact hbad ⟨p, q, r, e, h1, h2, h3⟩
    · have hc : c ≠ 126 := of_decide_eq_false hm
      clear hm
      walk_at "m"
      refine ⟨l.length - (k + 1), by omega, k + 1, acc ++ [c], by omega, rfl, by simp; omega, ?_, rfl⟩
      rw [hread, hdrop, readL_plain hc]
      cases readL (l.drop (k + 1)) <;> simp
  · have hb' : ¬ k < l.length := by have := of_decide_eq_false hb; omega
    have hk' : k = l.length := by omega
    subst hk'
    walk_at "m"
    refine Ends.str ?_
    rw [hread, List.drop_length] at hx
    have := Option.some.inj hx
    rw [← this]; simp
theorem name_of_bad {l : List Nat} (hx : readL l = none) (hz : l.length ≤ 1000000) : FunX T 2 "name_of" [.d (.str (mkS l))] CB := by
  refine FunX.defK G ["part"] ["found", "at"] (by k_is) (by k_is) (by k_is) (by walk_at "mBinds") (by walk_at "mPrm") (by rfl) (by rfl) ⟨rfl, rfl, rfl⟩ (fun env outer he => ?_)
  walk_at "mDef"
  refine ExX.cons1 (Ex1.assign (d := .str (mkS [])) (by rw [← s6]; walk_at "m") (by walk_at "mPut") (by walk_at "mLoc") (by walk_at "mR") (show ExX _ _ _ _ _ _ _ from ?_))
  refine ExX.cons1 (Ex1.assign (d := .int 0) (by walk_at "m") (by walk_at "mPut") (by walk_at "mLoc") (by walk_at "mR") (show ExX _ _ _ _ _ _ _ from ?_))
  refine ExX.cons (ExX1.whil (fun m Γ => ∃ (k : Nat) (acc : List Nat), k ≤ l.length ∧ m = l.length - k ∧ acc.length ≤ k ∧ readL (l.drop k) = none ∧
    Γ = ([("part", some (.d (.str (mkS l)), .c)), ("found", some (.d (.str (mkS acc)), .c)), ("at", some (.d (.int (k : Int)), .c))] : Gm)) l.length ⟨0, [], by omega, by omega, by simp, by simpa using hx, rfl⟩ (fun m Γ hΓ => ?_))
  obtain ⟨k, acc, hk, rfl, hacc, hread, rfl⟩ := hΓ
  refine ⟨decide ((k : Int) < (l.length : Int)), by walk_at "m", fun hb => ?_, fun hb => ?_⟩
  · have hb' : k < l.length := by have := of_decide_eq_true hb; omega
    clear hb
    have hat : l[Int.toNat (k : Int)]? = some (l.getD k 0) := by simp [List.getD, hb']
    have hdrop : l.drop k = l.getD k 0 :: l.drop (k + 1) := by
      rw [List.drop_eq_getElem_cons hb']; simp [List.getD, hb']
    generalize l.getD k 0 = c at hat hdrop
    have hsz : ∀ y : Nat, acc.length + [y].length ≤ sizeLine := fun y => by rw [sizeLine_is, List.length_singleton]; omega
    refine ExX.cons (ExX1.ite (b := decide (c = 126)) ?_ (fun hm => ?_) (fun hm => ?_))
    · have e : decide (c = 126) = decide ([c] = (Str.ofString "~").cps.toList) := by rw [s1]; simp
      rw [e]
      walk_at "m"
    · have hc : c = 126 := of_decide_eq_true hm
      subst hc
      clear hm
      have hcut : pyCut (some ((k : Int) + 1)) (some ((k : Int) + 3)) l = (l.drop (k + 1)).take 2 := by
        rw [pyCut_ab _ _ _ (by omega) (by omega)]
        rw [show ((k : Int) + 1).toNat = k + 1 by omega, show ((k : Int) + 3).toNat - (k + 1) = 2 by omega]
      rcases Classical.em (∃ p q r, l.drop (k + 1) = p :: q :: r ∧ isDig p = true ∧ isDig q = true ∧ val2 p q ≤ 93) with ⟨p, q, r, hr, g1, g2, g3⟩ | hbad
      · have hso := sign_of_ok G g1 g2 g3
        have hf : Fun T 1 "sign_of" [.d (.str (mkS (pyCut (some ((k : Int) + 1)) (some ((k : Int) + 3)) l)))] (.str (mkS [sgn (val2 p q)])) := by
          rw [hcut, hr]; exact hso
        have hl3 : k + 3 ≤ l.length := by
          have := congrArg List.length hr
          simp only [List.length_drop, List.length_cons] at this
          omega
        have hdr : l.drop (k + 3) = r := by
          rw [show k + 3 = (k + 1) + 2 by omega, ← List.drop_drop, hr]; rfl
        refine ExX.of ?_
        walk_at "m"
        refine (show ExX T 1 env outer _ [] _ from ExX.nil ?_)
        dsimp only [Turn]
        refine ⟨l.length - (k + 3), by omega, k + 3, acc ++ [sgn (val2 p q)], by omega, rfl, by simp; omega, ?_, rfl⟩
        rw [hdrop, hr, readL_esc r g1 g2 g3] at hread
        rw [hdr]
        cases h : readL r with
        | none => rfl
        | some y => rw [h] at hread; cases hread
      · have hso := sign_of_bad G (l := pyCut (some ((k : Int) + 1)) (some ((k : Int) + 3)) l) (by rw [hcut]; simp; omega) (fun p q hg => by
          obtain ⟨e, g1, g2, g3⟩ := hg
          rw [hcut] at e
          rcases hr : l.drop (k + 1) with _ | ⟨p', _ | ⟨q', r⟩⟩
          · rw [hr] at e; cases e
          · rw [hr] at e; cases e
          · rw [hr] at e
            cases e
            exact hbad ⟨_, _, r, hr, g1, g2, g3⟩)
        refine ExX.cons (ExX1.assignX (EvX.binR (Ev.name (by walk_at "mMem")) (EvX.call (m := 1) (xs := [(_, .c)]) (by walk_at "mKd") (by walk_at "mR") ?_ (.cons .nil) hso (by omega))) (by walk_at "mR") rfl)
        exact EvA.cons (Ev.ofF (EvF.cut (Ev.name (by walk_at "mMem")) (by walk_at "m") (by walk_at "m") (Cut.s (by rw [sizeLine_is]; omega)))) EvA.nil (by walk_at "mR")
    · have hc : c ≠ 126 := of_decide_eq_false hm
      clear hm
      refine ExX.of ?_
      walk_at "m"
      refine (show ExX T 1 env outer _ [] _ from ExX.nil ?_)
      dsimp only [Turn]
      refine ⟨l.length - (k + 1), by omega, k + 1, acc ++ [c], by omega, rfl, by simp; omega, ?_, rfl⟩
      rw [hdrop, readL_plain hc] at hread
      cases h : readL (l.drop (k + 1)) with
      | none => rfl
      | some y => rw [h] at hread; cases hread
  · have hb' : ¬ k < l.length := by have := of_decide_eq_false hb; omega
    exfalso
    rw [List.drop_eq_nil_of_le (by omega)] at hread
    cases hread
end
section
variable {T : St} (G : GK T)
include G
theorem law_read_spec {l : List Nat} (hz : l.length ≤ 1000000) : Fun T 2 "_law_read" [.d (.str (mkS l))] (optS (readL l)) := by
  refine Fun.defK G ["_law_part"] ["_law_found", "_law_k", "_law_two"] (by k_is) (by k_is) (by k_is) (by walk_at "mBinds") (by walk_at "mPrm") (by rfl) (by rfl) ⟨rfl, rfl, rfl⟩ (fun env he => ?_)
  walk_at "mDef"
  walk_at "m"
  rw [s6]
  refine Ex1.whil (fun m Γ => ∃ (k : Nat) (acc : List Nat) (sl : Slot), k ≤ l.length ∧ m = l.length - k ∧ acc.length ≤ k ∧ readL l = (readL (l.drop k)).map (acc ++ ·) ∧
    Γ = ([("_law_part", some (.d (.str (mkS l)), .c)), ("_law_found", some (.d (.str (mkS acc)), .c)), ("_law_k", some (.d (.int (k : Int)), .c)), ("_law_two", sl)] : Gm)) l.length ⟨0, [], none, by omega, by omega, by simp, by simp, rfl⟩ (fun m Γ hΓ => ?_)
  obtain ⟨k, acc, sl, hk, rfl, hacc, hread, rfl⟩ := hΓ
  refine ⟨decide ((k : Int) < (l.length : Int)), by walk_at "m", fun hb => ?_, fun hb => ?_⟩
  · have hb' : k < l.length := by have := of_decide_eq_true hb; omega
    clear hb
    have hat : l[Int.toNat (k : Int)]? = some (l.getD k 0) := by simp [List.getD, hb']
    have hdrop : l.drop k = l.getD k 0 :: l.drop (k + 1) := by
      rw [List.drop_eq_getElem_cons hb']; simp [List.getD, hb']
    generalize l.getD k 0 = c at hat hdrop
    refine Ex.cons (Ex1.ite (b := !decide (c = 126)) ?_ (fun hm => ?_) (fun hm => ?_))
    · have e : (!decide (c = 126)) = !decide ([c] = (Str.ofString "~").cps.toList) := by rw [s1]; simp
      rw [e]
      walk_at "m"
    · have hc : c ≠ 126 := by simpa using hm
      clear hm
      walk_at "m"
      refine ⟨l.length - (k + 1), by omega, k + 1, acc ++ [c], _, by omega, rfl, by simp; omega, ?_, rfl⟩
      rw [hread, hdrop, readL_plain hc]
      cases readL (l.drop (k + 1)) <;> simp
    · have hc : c = 126 := by simpa using hm
      subst hc
      clear hm
      have hcut : pyCut (some ((k : Int) + 1)) (some ((k : Int) + 3)) l = (l.drop (k + 1)).take 2 := by
        rw [pyCut_ab _ _ _ (by omega) (by omega)]
        rw [show ((k : Int) + 1).toNat = k + 1 by omega, show ((k : Int) + 3).toNat - (k + 1) = 2 by omega]
      refine Ex.cons (Ex1.assign (d := .str (mkS ((l.drop (k + 1)).take 2))) (by rw [← hcut]; walk_at "m") (by walk_at "mPut") (by walk_at "mLoc") (by walk_at "mR") (show Ex _ _ _ _ _ _ from ?_))
      rcases hr : l.drop (k + 1) with _ | ⟨p, _ | ⟨q, r⟩⟩
      · refine Ex.cons (Ex1.ite (b := true) ?_ (fun _ => ?_) (fun h => nomatch h))
        · rw [show true = (decide (((List.take 2 ([] : List Nat)).length : Int) < 2) || true) by rfl]
          exact IsT.or (by walk_at "m") (fun h => by simp at h)
        · walk_at "m"
          exact (by rw [hread, hdrop, hr]; rfl : optS (readL l) = .none).symm
      · refine Ex.cons (Ex1.ite (b := true) ?_ (fun _ => ?_) (fun h => nomatch h))
        · rw [show List.take 2 [p] = [p] from rfl, show true = (decide (([p].length : Int) < 2) || true) by rfl]
          exact IsT.or (by walk_at "m") (fun h => by simp at h)
        · walk_at "m"
          exact (by rw [hread, hdrop, hr]; rfl : optS (readL l) = .none).symm
      · rw [show List.take 2 (p :: q :: r) = [p, q] from rfl]
        have i0 : [p, q][Int.toNat 0]? = some p := rfl
        have i1 : [p, q][Int.toNat 1]? = some q := rfl
        have hlr : r.length = l.length - (k + 3) ∧ k + 3 ≤ l.length := by
          have := congrArg List.length hr
          simp only [List.length_drop, List.length_cons] at this
          omega
        have hdr : l.drop (k + 3) = r := by
          rw [show k + 3 = (k + 1) + 2 by omega, ← List.drop_drop, hr]; rfl
        refine Ex.cons (Ex1.ite (b := !(isDig p && isDig q)) ?_ (fun h => ?_) (fun h => ?_))
        · have e : (!(isDig p && isDig q)) = (decide (([p, q].length : Int) < 2) || (!decide (p ∈ (Str.ofString "0123456789").cps.toList) || (!decide (q ∈ (Str.ofString "0123456789").cps.toList) || false))) := by
            rw [digits_is, digits_is]
            cases isDig p <;> cases isDig q <;> rfl
          rw [e]
          walk_at "m"
        · walk_at "m"
          refine (?_ : optS (readL l) = .none).symm
          rw [hread, hdrop, hr, readL_bad]
          · rfl
          · intro p' q' r' e h1 h2
            cases e
            rw [h1, h2] at h; simp at h
        · have hd2 : isDig p = true ∧ isDig q = true := by
            cases hp : isDig p <;> cases hq : isDig q <;> rw [hp, hq] at h <;> simp at h
            exact ⟨rfl, rfl⟩
          have had : NumText.AllDigits [p, q] := by
            have h1 := hd2.1
            have h2 := hd2.2
            simp only [isDig, Bool.and_eq_true, decide_eq_true_eq] at h1 h2
            intro c hc
            simp only [List.mem_cons, List.not_mem_nil, or_false] at hc
            rcases hc with rfl | rfl <;> omega
          have hv : NumText.digitsVal [p, q] = val2 p q := by
            show (0 * 10 + (p - 48)) * 10 + (q - 48) = val2 p q
            unfold val2; omega
          have hlt : val2 p q < 100 := by
            have h1 := hd2.1
            have h2 := hd2.2
            simp only [isDig, Bool.and_eq_true, decide_eq_true_eq] at h1 h2
            unfold val2; omega
          have hint : ∀ Γ : Gm, ((("_law_two" : Str), (some (Vl.d (.str (mkS [p, q])), Fl.c) : Slot)) ∈ Γ) → ∀ (n : Nat) (p₁ p₂ p₃ : Pos), EvF T 1 env Γ (.Call (.Name "int" p₁) [.Name "_law_two" p₂] [] p₃) (.int (val2 p q : Nat)) := fun Γ hm n p₁ p₂ p₃ => by
            rw [← hv]
            exact EvF.callB (by walk_at "mKd") (by walk_at "mR") (by walk_at "mG") (by walk_at "mB") (.inr ⟨_, rfl⟩) (EvA.cons (Ev.name hm) EvA.nil (by walk_at "mR")) (CallB.intS had (by simp) (by simp))
          refine Ex.nil (show Ex _ _ _ _ _ _ from ?_)
          refine Ex.cons (Ex1.ite (b := decide (((val2 p q : Nat) : Int) > 93)) ?_ (fun h => ?_) (fun h => ?_))
          · exact IsT.cmp (Ev.ofF (hint _ (by walk_at "mMem") 0 _ _ _)) (Ev.ofF EvF.kInt) Cmp.gtI (by walk_at "mR")
          · walk_at "m"
            refine (?_ : optS (readL l) = .none).symm
            have h' := of_decide_eq_true h
            rw [hread, hdrop, hr, readL_bad]
            · rfl
            · intro p' q' r' e h1 h2
              cases e
              omega
          · have h' := of_decide_eq_false h
            clear h
            refine Ex.nil (show Ex _ _ _ _ _ _ from ?_)
            have hsg : signsL[Int.toNat ((val2 p q : Nat) : Int)]? = some (sgn (val2 p q)) := signsL_at (by omega)
            have hsl := signsL_len
            refine Ex.cons (Ex1.assign (d := .str (mkS (acc ++ [sgn (val2 p q)]))) ?_ (by walk_at "mPut") (by walk_at "mLoc") (by walk_at "mR") (show Ex _ _ _ _ _ _ from ?_))
            · refine EvF.bin (Ev.name (by walk_at "mMem")) (Ev.sub (fl := .c) (Ev.ofF ?_) (Ev.ofF (hint _ (by walk_at "mMem") 0 _ _ _)) (Sub.strL (by omega) hsg (by rw [hsl, sizeLine_is]; omega)) (by intro _ _; walk_at "mR")) (Bin.catS (by rw [sizeLine_is]; simp; omega))
              walk_at "m"
            · walk_at "m"
              refine ⟨l.length - (k + 3), by omega, k + 3, acc ++ [sgn (val2 p q)], _, by omega, rfl, by simp; omega, ?_, rfl⟩
              rw [hread, hdrop, hr, hdr, readL_esc r hd2.1 hd2.2 (by omega)]
              cases readL r <;> simp
  · have hb' : ¬ k < l.length := by have := of_decide_eq_false hb; omega
    have hk' : k = l.length := by omega
    subst hk'
    walk_at "m"
    refine (?_ : optS (readL l) = .str (mkS acc)).symm
    rw [hread, List.drop_length]
    show optS (some (acc ++ [])) = _
    rw [List.append_nil]; rfl
end
def sig92 : List Nat := (signsL.filter fun z => z != 47).filter fun z => z != 126
theorem sig92_len : sig92.length = 92 := by decide +kernel
def pieceL (c : Int) : List Nat := if c % 2 = 0 then [sig92.getD (c / 2 % 92).toNat 0] else [126] ++ decS (c / 2 % 94 / 10) ++ decS (c / 2 % 94 % 10)
theorem pieceL_len (c : Int) : (pieceL c).length ≤ 5 := by
  unfold pieceL
  split
  · simp
  · have h1 := decS_len (i := c / 2 % 94 / 10) (by omega) (by omega)
    have h2 := decS_len (i := c / 2 % 94 % 10) (by omega) (by omega)
    simp; omega
theorem sa1 : Str.ofString "/" = mkS [47] := by decide +kernel
theorem sa2 : Str.ofString "~" = mkS [126] := by decide +kernel
theorem sa3 : Str.ofString "" = mkS [] := by decide +kernel
def oddB (c : Int) : List PyData := [.str (mkS (Str.ofString "~").cps.toList), .str (mkS (Str.ofString "~1").cps.toList), .str (mkS (Str.ofString "~x1").cps.toList), .str (mkS (Str.ofString "~1x").cps.toList), .str (mkS (Str.ofString "~ 1").cps.toList), .str (mkS (Str.ofString "~-1").cps.toList), .str (mkS (Str.ofString "~+3").cps.toList), .str (mkS (Str.ofString "~~1").cps.toList), .str (mkS ((Str.ofString "~").cps.toList ++ decS (c / 12 % 10)))]
theorem oddB_at (c : Int) {k : Nat} (h : k < 9) : ∃ y, (oddB c)[k]? = some (.str (mkS y)) ∧ y.length ≤ 5 := by
  have h1 := decS_len (i := c / 12 % 10) (by omega) (by omega)
  match k, h with
  | 0, _ => exact ⟨_, rfl, by decide +kernel⟩
  | 1, _ => exact ⟨_, rfl, by decide +kernel⟩
  | 2, _ => exact ⟨_, rfl, by decide +kernel⟩
  | 3, _ => exact ⟨_, rfl, by decide +kernel⟩
  | 4, _ => exact ⟨_, rfl, by decide +kernel⟩
  | 5, _ => exact ⟨_, rfl, by decide +kernel⟩
  | 6, _ => exact ⟨_, rfl, by decide +kernel⟩
  | 7, _ => exact ⟨_, rfl, by decide +kernel⟩
  | 8, _ => exact ⟨_, rfl, by rw [s1]; simp; omega⟩
theorem s9 : (Str.ofString "~9").cps.toList.length = 2 := by decide +kernel
section
variable {T : St} (G : GK T)
include G
theorem law_piece_by_spec {c : Int} : Fun T 2 "_law_piece_by" [.d (.int c)] (.str (mkS (pieceL c))) := by
  refine Fun.defK G ["_law_cell"] ["_law_more"] (by k_is) (by k_is) (by k_is) (by walk_at "mBinds") (by walk_at "mPrm") (by rfl) (by rfl) ⟨rfl, rfl, rfl⟩ (fun env he => ?_)
  walk_at "mDef"
  have hl := sig92_len
  have hsl := signsL_len
  refine Ex.cons (Ex1.assign (d := .int (c / 2)) (by walk_at "m") (by walk_at "mPut") (by walk_at "mLoc") (by walk_at "mR") (show Ex _ _ _ _ _ _ from ?_))
  have hat : sig92[(c / 2 % 92).toNat]? = some (sig92.getD (c / 2 % 92).toNat 0) := by
    have : (c / 2 % 92).toNat < sig92.length := by rw [hl]; omega
    simp [List.getD, this]
  refine Ex.cons (Ex1.itePos (f₁ := .c) (b := (c % 2 == 0)) (d := .str (mkS [sig92.getD (c / 2 % 92).toNat 0])) ?_ Cmp.eqI (by walk_at "mR") (fun h => ⟨?_, ?_⟩) (fun h => ?_))
  · walk_at "m"
  · refine EvF.subP (k := c / 2 % 92) (f₂ := .c) (EvFP.replace (c := 126) (EvFP.replace (c := 47) (EvFP.of ?_) sa1 sa3 (by rw [hsl]; decide) (by walk_at "mR") (by walk_at "mR")) sa2 sa3 (by
      have := List.length_filter_le (fun z => z != 47) signsL
      omega) (by walk_at "mR") (by walk_at "mR")) ?_ (by omega) hat (by rw [show ((signsL.filter fun z => z != 47).filter fun z => z != 126).length = 92 from hl, sizeLine_is]; decide) (by intro _ _; walk_at "mR")
    · walk_at "m"
    · walk_at "m"
  · have h' : c % 2 = 0 := by simpa using h
    exact (show PyData.str (mkS [sig92.getD (c / 2 % 92).toNat 0]) = .str (mkS (pieceL c)) by unfold pieceL; rw [if_pos h'])
  · have h' : ¬ c % 2 = 0 := by simpa using h
    have h1 := decS_len (i := c / 2 % 94 / 10) (by omega) (by omega)
    have h2 := decS_len (i := c / 2 % 94 % 10) (by omega) (by omega)
    refine Ex.nil (show Ex _ _ _ _ _ _ from ?_)
    walk_at "m"
    · rw [s1, sizeLine_is]; simp; omega
    · rw [s1, sizeLine_is]; simp; omega
    · exact Ends.str (by rw [s1]; unfold pieceL; rw [if_neg h'])
theorem law_broken_by_spec {c : Int} : ∃ y, y.length ≤ 5 ∧ Fun T 1 "_law_broken_by" [.d (.int c)] (.str (mkS y)) := by
  have h1 := decS_len (i := c / 12 % 10) (by omega) (by omega)
  have h2 := decS_len (i := 4 + c / 12 % 6) (by omega) (by omega)
  have hs9 := s9
  by_cases hc : c % 12 < 9
  · obtain ⟨y, hy, hyl⟩ := oddB_at c (k := (c % 12).toNat) (by omega)
    refine ⟨y, hyl, ?_⟩
    refine Fun.defK G ["_law_cell"] ["_law_odd"] (by k_is) (by k_is) (by k_is) (by walk_at "mBinds") (by walk_at "mPrm") (by rfl) (by rfl) ⟨rfl, rfl, rfl⟩ (fun env he => ?_)
    walk_at "mDef"
    refine Ex.cons (Ex1.assign (d := .list (oddB c)) ?_ (by walk_at "mPut") (by walk_at "mLoc") (by walk_at "mR") (show Ex _ _ _ _ _ _ from ?_))
    · unfold oddB
      walk_at "m"
      rw [s1, sizeLine_is]; simp; omega
    refine Ex.cons (Ex1.ite (b := decide (c % 12 < 9)) (by walk_at "m") (fun _ => ?_) (fun h => absurd hc (of_decide_eq_false h)))
    walk_at "m"
    exact Ends.str rfl
  · refine ⟨(Str.ofString "~9").cps.toList ++ decS (4 + c / 12 % 6), by rw [List.length_append, hs9]; omega, ?_⟩
    refine Fun.defK G ["_law_cell"] ["_law_odd"] (by k_is) (by k_is) (by k_is) (by walk_at "mBinds") (by walk_at "mPrm") (by rfl) (by rfl) ⟨rfl, rfl, rfl⟩ (fun env he => ?_)
    walk_at "mDef"
    refine Ex.cons (Ex1.assign (d := .list (oddB c)) ?_ (by walk_at "mPut") (by walk_at "mLoc") (by walk_at "mR") (show Ex _ _ _ _ _ _ from ?_))
    · unfold oddB
      walk_at "m"
      rw [s1, sizeLine_is]; simp; omega
    refine Ex.cons (Ex1.ite (b := decide (c % 12 < 9)) (by walk_at "m") (fun h => absurd (of_decide_eq_true h) hc) (fun h => ?_))
    refine Ex.nil (show Ex _ _ _ _ _ _ from ?_)
    walk_at "m"
    exact Ends.str rfl
end
def nearF (ns : List Int) : PyData → PyData
  | .int k => .int (ns.getD (1 + k).toNat 0)
  | d => d
def farF (ns : List Int) : PyData → PyData
  | .int k => .int (ns.getD (Int.toNat 1) 0 + 5 * k * k)
  | d => d
def pieceF : PyData → PyData
  | .int c => .str (mkS (pieceL c))
  | d => d
theorem map_all' {α : Type} (f : α → PyData) (xs : List α) (g : PyData → PyData) : List.map g (List.filter (fun _ => true) (xs.map f)) = xs.map fun x => g (f x) := by
  rw [List.filter_eq_self.mpr (fun _ _ => rfl), List.map_map]; rfl
theorem sum_ps {cs : List Int} : ((cs.map pieceL).map (·.length)).sum ≤ cs.length * 5 := by
  have := sum_le (B := 5) (cs.map pieceL) (fun x hx => by
    obtain ⟨c, _, rfl⟩ := List.mem_map.mp hx
    exact pieceL_len c)
  simpa using this
local macro_rules | `(tactic| walk_at "mC") => `(tactic| exact law_piece_by_spec (by assumption))
local macro_rules | `(tactic| walk_at "mC") => `(tactic| (with_reducible assumption))
section
variable {T : St} (G : GK T)
include G
theorem law_spec {ns : List Int} (hns : ns.length ≤ 63) : FunT T 5 "law" [.d (.list (ns.map .int))] (.bool true) := by
  refine FunT.defK G ["_law_script"] ["_law_first", "_law_cells", "_law_pieces", "_law_at", "_law_part", "_law_due", "_law_found"] (by k_is) (by k_is) (by k_is) (by walk_at "mBinds") (by walk_at "mPrm") (by rfl) (by rfl) ⟨rfl, rfl, rfl⟩ (fun env he => ?_)
  walk_at "mDef"
  refine ExX.cons1 (Ex1.assign (d := .int (ns.getD (Int.toNat 0) 0)) (by walk_at "m") (by walk_at "mPut") (by walk_at "mLoc") (by walk_at "mR") (show ExX _ _ _ _ _ _ _ from ?_))
  generalize ns.getD (Int.toNat 0) 0 = first
  refine ExX.cons1 (Ex1.assignComp (fl' := .c) (.inl rfl) (Γv := [("_law_script", some (.d (.list (ns.map .int)), .b))]) (p := fun _ => true) (f := nearF ns) (items := rangeD (first / 3 % 11).toNat) (fl := .c) (by walk_at "mItr") ?_ ?_ ?_ ?_ ?_ ?_ (by walk_at "mPut") (by walk_at "mLoc") (by unfold swapsWith Env.blockKind Env.kindOf; rw [he]; rfl) (show ExX _ _ _ _ _ _ _ from ?_))
  · exact okComp_ok he rfl rfl
  · intro q hq
    simp only [List.mem_cons, List.not_mem_nil, or_false] at hq
    subst hq; exact ⟨by walk_at "mMem", rfl⟩
  · exact okNames_ok rfl
  · rw [rangeD_length, sizeLine_is]; omega
  · exact fun _ _ _ _ => rfl
  · intro C cl d hd _
    obtain ⟨k, hk⟩ := List.getElem?_of_mem hd
    obtain ⟨hk, rfl⟩ := rangeD_get hk
    show EvF _ _ _ [("_law_k", some (.d (.int (k : Int)), .c)), ("_law_script", some (.d (.list (ns.map .int)), .b))] _ (.int (ns.getD (1 + (k : Int)).toNat 0))
    walk_at "m"
  rw [show List.map (nearF ns) (List.filter (fun _ => true) (rangeD (first / 3 % 11).toNat)) = ((List.range (first / 3 % 11).toNat).map fun k : Nat => ns.getD (1 + (k : Int)).toNat 0).map .int by unfold rangeD; rw [map_all', List.map_map]; rfl]
  obtain ⟨c0, hc0, hc0e⟩ : ∃ c0 : List Int, c0.length ≤ 10 ∧ c0 = (List.range (first / 3 % 11).toNat).map fun k : Nat => ns.getD (1 + (k : Int)).toNat 0 := ⟨_, by simp; omega, rfl⟩
  rw [← hc0e]
  clear hc0e
  refine ExX.cons1 (Ex1.mono (Q := fun f Γ => f = .next ∧ ∃ cs : List Int, cs.length ≤ 300 ∧ Γ = ([("_law_script", some (.d (.list (ns.map .int)), .b)), ("_law_first", some (.d (.int first), .c)), ("_law_cells", some (.d (.list (cs.map .int)), .c)), ("_law_pieces", none), ("_law_at", none), ("_law_part", none), ("_law_due", none), ("_law_found", none)] : Gm)) (Ex1.ite (b := first / 33 % 8 == 1) (by walk_at "m") (fun h => ?_) (fun h => ?_)) ?_)
  · refine Ex.cons (Ex1.assignComp (fl' := .c) (.inl rfl) (Γv := [("_law_script", some (.d (.list (ns.map .int)), .b))]) (p := fun _ => true) (f := farF ns) (items := rangeD (60 + first / 264 % 241).toNat) (fl := .c) (by walk_at "mItr") ?_ ?_ ?_ ?_ ?_ ?_ (by walk_at "mPut") (by walk_at "mLoc") (by unfold swapsWith Env.blockKind Env.kindOf; rw [he]; rfl) (show Ex _ _ _ _ _ _ from ?_))
    · exact okComp_ok he rfl rfl
    · intro q hq
      simp only [List.mem_cons, List.not_mem_nil, or_false] at hq
      subst hq; exact ⟨by walk_at "mMem", rfl⟩
    · exact okNames_ok rfl
    · rw [rangeD_length, sizeLine_is]; omega
    · exact fun _ _ _ _ => rfl
    · intro C cl d hd _
      obtain ⟨k, hk⟩ := List.getElem?_of_mem hd
      obtain ⟨hk, rfl⟩ := rangeD_get hk
      show EvF _ _ _ [("_law_k", some (.d (.int (k : Int)), .c)), ("_law_script", some (.d (.list (ns.map .int)), .b))] _ (.int (ns.getD (Int.toNat 1) 0 + 5 * (k : Int) * (k : Int)))
      walk_at "m"
    · refine Ex.nil ⟨rfl, (List.range (60 + first / 264 % 241).toNat).map (fun k : Nat => ns.getD (Int.toNat 1) 0 + 5 * (k : Int) * (k : Int)), by simp; omega, ?_⟩
      rw [show List.map (farF ns) (List.filter (fun _ => true) (rangeD (60 + first / 264 % 241).toNat)) = ((List.range (60 + first / 264 % 241).toNat).map fun k : Nat => ns.getD (Int.toNat 1) 0 + 5 * (k : Int) * (k : Int)).map .int by unfold rangeD; rw [map_all', List.map_map]; rfl]
  · exact Ex.nil ⟨rfl, c0, by omega, rfl⟩
  rintro f Γ ⟨rfl, cs, hcs, rfl⟩
  refine (show ExX _ _ _ _ _ _ _ from ?_)
  refine ExX.cons1 (Ex1.assignComp (fl' := .o) (.inr rfl) (Γv := []) (p := fun _ => true) (f := pieceF) (items := cs.map .int) (fl := .c) (by walk_at "mItr") ?_ ?_ ?_ ?_ ?_ ?_ (by walk_at "mPut") (by walk_at "mLoc") (by unfold swapsWith Env.blockKind Env.kindOf; rw [he]; rfl) (show ExX _ _ _ _ _ _ _ from ?_))
  · exact okComp_ok he rfl rfl
  · intro q hq; cases hq
  · exact okNames_ok rfl
  · rw [List.length_map, sizeLine_is]; omega
  · exact fun _ _ _ _ => rfl
  · intro C cl d hd _
    obtain ⟨c, hc, rfl⟩ := List.mem_map.mp hd
    show EvF _ _ _ [("_law_cell", some (.d (.int c), .c))] _ (.str (mkS (pieceL c)))
    walk_at "m"
  rw [show List.map pieceF (List.filter (fun _ => true) (cs.map .int)) = PL (cs.map pieceL) by rw [map_all']; simp [pieceF]]
  have hsum := sum_ps (cs := cs)
  have hpl : (cs.map pieceL).length = cs.length := by simp
  generalize cs.map pieceL = ps at hsum hpl ⊢
  generalize (Vl.d (PyData.list (cs.map PyData.int)), Fl.c) = csS
  refine ExX.cons1 (Ex1.mono (Q := fun f Γ => f = .next ∧ ∃ (ps : List (List Nat)) (sl : Slot), (ps.map (·.length)).sum ≤ 2000 ∧ ps.length ≤ 301 ∧ Γ = ([("_law_script", some (.d (.list (ns.map .int)), .b)), ("_law_first", some (.d (.int first), .c)), ("_law_cells", some csS), ("_law_pieces", some (.d (.list (PL ps)), .o)), ("_law_at", sl), ("_law_part", none), ("_law_due", none), ("_law_found", none)] : Gm)) (Ex1.ite (b := first % 3 == 1) (by walk_at "m") (fun h => ?_) (fun h => ?_)) ?_)
  · have L : (PL ps).length = ps.length := by simp
    have hat0 := Int.emod_nonneg (ns.getD (Int.toNat 12) 0) (b := ((PL ps).length : Int) + 1) (by omega)
    have hat1 := Int.emod_lt_of_pos (ns.getD (Int.toNat 12) 0) (b := ((PL ps).length : Int) + 1) (by omega)
    refine Ex.cons (Ex1.assign (d := .int (ns.getD (Int.toNat 12) 0 % (((PL ps).length : Int) + 1))) (by walk_at "m") (by walk_at "mPut") (by walk_at "mLoc") (by walk_at "mR") (show Ex _ _ _ _ _ _ from ?_))
    generalize ns.getD (Int.toNat 12) 0 % (((PL ps).length : Int) + 1) = at' at hat0 hat1 ⊢
    obtain ⟨bk, hbk, hbf⟩ := law_broken_by_spec G (c := ns.getD (Int.toNat 13) 0)
    refine Ex.cons (Ex1.insert (i := at') (d := .str (mkS bk)) (f₁ := .c) (by walk_at "mMem") (EvA.cons (Ev.name (by walk_at "mMem")) (EvA.cons (Ev.ofF ?_) EvA.nil (by walk_at "mR")) (by walk_at "mR")) hat0 (by omega) (by rw [sizeLine_is]; omega) (by walk_at "mPut") (by walk_at "mR") (by walk_at "mR") (by walk_at "mR") (show Ex _ _ _ _ _ _ from ?_))
    · walk_at "m"
    have hPL : (PL ps).take at'.toNat ++ .str (mkS bk) :: (PL ps).drop at'.toNat = PL (ps.take at'.toNat ++ bk :: ps.drop at'.toNat) := by
      show List.take _ (List.map _ ps) ++ _ :: List.drop _ (List.map _ ps) = List.map _ _
      rw [List.map_append, List.map_cons, List.map_take, List.map_drop]
    rw [hPL]
    have hs2 : ((ps.take at'.toNat ++ bk :: ps.drop at'.toNat).map (·.length)).sum = (ps.map (·.length)).sum + bk.length := by
      have e := congrArg (fun l : List (List Nat) => (l.map (·.length)).sum) (List.take_append_drop at'.toNat ps)
      simp only [List.map_append, List.sum_append, List.map_cons, List.sum_cons] at e ⊢
      omega
    have hl2 : (ps.take at'.toNat ++ bk :: ps.drop at'.toNat).length = ps.length + 1 := by
      rw [List.length_append, List.length_cons, List.length_take, List.length_drop]; omega
    exact Ex.nil ⟨rfl, _, _, by omega, by omega, rfl⟩
  · exact Ex.nil ⟨rfl, ps, _, by omega, by omega, rfl⟩
  rintro f Γ ⟨rfl, ps, sl, hsum, hpl, rfl⟩
  refine (show ExX _ _ _ _ _ _ _ from ?_)
  have hil : (List.intercalate [] ps).length ≤ 2000 := by
    rw [icat_nil, List.length_flatten]; exact hsum
  refine ExX.cons1 (Ex1.assign (d := .str (mkS (List.intercalate [] ps))) ?_ (by walk_at "mPut") (by walk_at "mLoc") (by walk_at "mR") (show ExX _ _ _ _ _ _ _ from ?_))
  · rw [← s6]
    walk_at "m"
    rw [s6]; simp only [List.length_nil, Nat.mul_zero]; omega
  generalize List.intercalate [] ps = part at hil ⊢
  generalize (Vl.d (PyData.list (PL ps)), Fl.o) = psS
  have hrd := law_read_spec G (l := part) (by omega)
  cases hr : readL part with
  | none =>
    have hbad := name_of_bad G hr (by omega)
    rw [hr] at hrd
    change Fun T 2 "_law_read" [.d (.str (mkS part))] .none at hrd
    refine ExX.cons1 (Ex1.assign (d := .none) (by walk_at "m") (by walk_at "mPut") (by walk_at "mLoc") (by walk_at "mR") (show ExX _ _ _ _ _ _ _ from ?_))
    refine ExX.cons1 (Ex1.assign (d := .none) (by walk_at "m") (by walk_at "mPut") (by walk_at "mLoc") (by walk_at "mR") (show ExX _ _ _ _ _ _ _ from ?_))
    refine ExX.cons (ExX1.tryRet (k := CB) (C := 24) G (EvX.call (m := 2) (xs := [(_, .c)]) (by walk_at "mKd") (by walk_at "mR") (EvA.cons (Ev.name (by walk_at "mMem")) EvA.nil (by walk_at "mR")) (.cons .nil) hbad (by omega)) (by walk_at "mR") (by walk_at "mKd") (by walk_at "mR") (by walk_at "mG") (by with_unfolding_all rfl)
      (by walk_at "mKd") (by walk_at "mR") (by walk_at "mMem") (by decide +kernel) (by walk_at "mKd") (by walk_at "mG") (by walk_at "mB") (by walk_at "mKd") (by walk_at "mR") (by walk_at "mG") (by walk_at "mKd") (by walk_at "mR") (by walk_at "mG") (by walk_at "mB") ty_ValueError (by with_unfolding_all rfl) rfl)
  | some x =>
    refine ExX.of ?_
    have hok := name_of_ok G hr (by omega)
    rw [hr] at hrd
    change Fun T 2 "_law_read" [.d (.str (mkS part))] (.str (mkS x)) at hrd
    refine Ex.cons (Ex1.assign (d := .str (mkS x)) (by walk_at "m") (by walk_at "mPut") (by walk_at "mLoc") (by walk_at "mR") (show Ex _ _ _ _ _ _ from ?_))
    refine Ex.cons (Ex1.assign (d := .none) (by walk_at "m") (by walk_at "mPut") (by walk_at "mLoc") (by walk_at "mR") (show Ex _ _ _ _ _ _ from ?_))
    refine Ex.cons (Ex1.mono (Q := fun f Γ => f = .next ∧ Γ = ([("_law_script", some (.d (.list (ns.map .int)), .b)), ("_law_first", some (.d (.int first), .c)), ("_law_cells", some csS), ("_law_pieces", some psS), ("_law_at", sl), ("_law_part", some (.d (.str (mkS part)), .c)), ("_law_due", some (.d (.str (mkS x)), .c)), ("_law_found", some (.d (.str (mkS x)), .c))] : Gm)) (Ex1.tryOk ?_ ?_) ?_)
    · walk_at "m"
      exact ⟨rfl, rfl⟩
    · rintro f Γ ⟨rfl, _⟩; exact ⟨by simp, by simp⟩
    rintro f Γ ⟨rfl, rfl⟩
    refine (show Ex _ _ _ _ _ _ from ?_)
    walk_at "m"
    refine Ends.ret ?_
    simp
end
theorem final_of (LS : ∀ (T : St) (ns : List Int), GdK T (hd.heap_39 T.w.params) → ns.length ≤ 63 → FunT T 5 "law" [.d (.list (ns.map .int))] (.bool true)) : PySem.Challenge.rw_uf060013_01.Holds := hd (by
  k_fill
  intro w s₀ s₁ mg mb G Y fa o pm cd doc dV kV ho hd hcd hD hmg hg args vals as hpre hlay hrd hwl hlo
  have KX := kIn_of Y
  refine Ground.open G ?_
  intro T B D TE TW
  wrow_args hpre hlay hrd hwl hlo
  x_fa T KX hmg
  clear hD hcd hd ho
  rename_i ns hs hlay hL2 hr hl2 as1 as2 a vs as3 hlist hall hwell hreads hints hraw hcond htrue
  have hmg' : mg "law" = some (.ref _) := hmg
  clear hmg
  have GG : GdK ⟨PySem.Challenge.rw_uf060013_01.row.prog, w, mg, mb, hd.heap_39 w.params, s₁.heap.objs.size⟩ (hd.heap_39 w.params) := ⟨rfl, fun x r e => by
    cases r with
    | none => exact mg_none_of (mg := mg) KX T.g e
    | some v => exact mg_of (mg := mg) KX T.g e, fun x hn => T.builtins x hn, ⟨_, _, T.free⟩⟩
  obtain ⟨a', fd, e1, e2, e3⟩ := LS ⟨PySem.Challenge.rw_uf060013_01.row.prog, w, mg, mb, hd.heap_39 w.params, s₁.heap.objs.size⟩ ns GG (by omega)
  have ea : mg "law" = some (.ref a') := e1
  rw [hmg'] at ea
  injection ea with ea
  injection ea with ea
  subst ea
  have hdok : Dok w s₁.heap as1 := by
    intro b hb
    cases hreads with
    | list ho hc hdat hrest =>
      have hnil : ∀ (vs : List Value) (xs : List Int) (bs : List Addr), ReadsAll s₁.heap vs (xs.map PyData.int) bs → bs = [] := by
        intro vs xs
        induction xs generalizing vs with
        | nil => intro bs h; cases h; rfl
        | cons x xs ih => intro bs h; cases h with | cons h1 h2 => cases h1; exact ih _ _ h2
      have := hnil _ _ _ hrest
      subst this
      rcases List.mem_cons.mp hb with rfl | hb
      · exact ⟨_, ho, fun es n q => by rw [hdat] at q; cases q⟩
      · cases hb
  refine e3.run ⟨rfl, by decide, by decide⟩ rfl (Nat.le_refl _) ⟨T.g, T.b, T.nolimit, fun b o e => KX b o e, fun b o e => Heap.lt_size (KX b o e)⟩ (.cons ⟨as1, hreads, fun _ _ => trivial, hdok⟩ .nil) (fun val s' k r => ?_)
  obtain rfl : val = .bool true := Rep.bool_inv r.rep
  obtain ⟨h', tk, rfl, hk⟩ := k
  refine GoodW.toG ⟨.inl ⟨_, .bool true, [], rfl, fun _ => rfl, .bool true, ?_, fun _ => ⟨.nil, fun _ h => nomatch h⟩⟩, fun b o e => ?_, rfl, hg⟩
  · refine postW_of (X := true) ?_ ?_ rfl
    · show WShape.has [] (.bool true) .bool = true
      first | rfl | simp [WShape.has]
    · show (WTm.eq .res (.lit (.bool true))).value [] _ = some (.bool true)
      simp [WTm.value, PySem.W.same]
  obtain ⟨sl, e1, e2⟩ := hk b o e
  have := e2 (.inr (.inl (Heap.lt_size e)))
  subst this
  exact e1)
end Mine

theorem PySem.Challenge.cw_uf060013_01_holds : PySem.Challenge.rw_uf060013_01.Holds :=
  Mine.final_of fun _ _ G h => Mine.law_spec G h
