import PyProof.Rows.All
import Wide.All
import OpenK.AllK
import Wide.FinOn
import PyProof.Rows.CompDC
import PyProof.Rows.RowHeap
import PyProof.Rows.IntRules
import PyProof.PureInt
import PyProof.PureStr
import PyProof.WalksMore
import PyProof.Rows.RuleB_floordiv
import PyProof.Rows.RuleB_mod
import PyProof.Rows.RuleB_mul
import PyProof.Rows.Nodes
import PyProof.Rows.Exc
import PyProof.StrBlock
import PyProof.IsRules
import PyProof.NeData
import PyProof.Rows.TupSub
import PyProof.Rows.StrSub
import PyProof.Rows.SeqSlice
import PyProof.SliceList
import PyProof.StrBlockL
import PyProof.Rows.StrTemp
import OpenK.KLine
import PyProof.ForRange
import PyProof.DictWalks
import PyProof.CompFree
import PyProof.StrCalls
import PyProof.StrCalls2
import PyProof.Rows.StrJoin2
import PyProof.StrLawsFirst
import PyProof.StrLawsIn
import PyProof.IsiPairs
import PyProof.IsiHeapPairs
import PyProof.CallStr
import PyProof.Conv_int_bool
import KE.KIntText
import PyProof.P3Eq
import PyProof.ListCopy
import PyProof.WalkInts
import PyProof.StrLawsChain
import PyProof.StrLawsTight
import PyProof.Rows.StrFacts2
import PyProof.CallRoads3
import PyProof.MeetsStr2
import PyProof.StrOps2
import PyProof.ForAppend
import PyProof.Rows.ListMulArg
import PyProof.StrLawsReplace
import PyProof.StrCalls6
import KE.KListMore
import PyProof.Rows.RuleU_int
import PyProof.AutoSeq1
import PyProof.ConsumeWalk
import PyProof.StationsW
import PyProof.PassesOwn
import PyProof.RulesTry
import PyProof.RulesAs
import PyProof.ExcClass3
import PyProof.Rows.Own
import PyProof.ExcBaseAll.ValueError
import OpenK.KOwn
import PyProof.DictRoads
import PyProof.DictStraight
import PyProof.Raises
import OpenK.KMore
import PyProof.Draws
import PyProof.EnumMake
import KE.KDictList
import KE.KEqDict
import PyProof.DictDisplay
import PyProof.P3In
import PyProof.DictCalls
import PySem.Challenge.RW_uf060013_10
set_option Elab.async false
set_option linter.all false
set_option compiler.extract_closed false
set_option maxRecDepth 100000
set_option maxHeartbeats 8000000
section
open PySem PySem.Calls PyProof.Rows
set_option linter.all false
namespace Mine
variable {N : Nat}

inductive Fl where
  | c | b | o
  | s (x : Addr × Option Str)

def KpH (N : Nat) (h h' : Heap) : Prop := ∀ b o, h.get? b = some o → ∃ sl, h'.get? b = some { o with slots := sl } ∧ ((o.cls ≠ .type "frame" ∨ b < N ∨ ∃ vs, o.data = .fields vs) → sl = o.slots)
theorem KpH.of {h h' : Heap} (hk : ∀ b o, h.get? b = some o → h'.get? b = some o) : KpH N h h' := fun b o e => ⟨o.slots, hk b o e, fun _ => rfl⟩
theorem KpH.refl (h : Heap) : KpH N h h := .of fun _ _ e => e
theorem KpH.trans {h₁ h₂ h₃ : Heap} (x : KpH N h₁ h₂) (y : KpH N h₂ h₃) : KpH N h₁ h₃ := fun b o e => by
  obtain ⟨sl, e1, f1⟩ := x b o e
  obtain ⟨sl', e2, f2⟩ := y b _ e1
  exact ⟨sl', e2, fun hc => (f2 hc).trans (f1 hc)⟩
theorem KpH.get {h h' : Heap} (x : KpH N h h') {b : Addr} {o : Obj} (e : h.get? b = some o) (hc : o.cls ≠ .type "frame") : h'.get? b = some o := by
  obtain ⟨sl, e1, f1⟩ := x b o e
  rw [e1, f1 (.inl hc)]
theorem KpH.none {h h' : Heap} (x : KpH N h h') {b : Addr} (e : h'.get? b = none) : h.get? b = none := by
  cases q : h.get? b with
  | none => rfl
  | some o => obtain ⟨sl, e1, _⟩ := x b o q; rw [e] at e1; cases e1
theorem KpH.push {h h' : Heap} (x : KpH N h h') (o : Obj) : KpH N h (h'.push o) := x.trans (.of fun _ _ e => Heap.get?_push_of_some o e)
theorem KpH.ns {h h' : Heap} (x : KpH N h h') {a : Addr} {m : Str → Option Value} (hn : h.Ns a m) : h'.Ns a m := by
  obtain ⟨o, es, ep, e, r⟩ := hn
  obtain ⟨sl, e1, _⟩ := x a o e
  exact ⟨_, es, ep, e1, r⟩
theorem KpH.cell {h h' : Heap} (x : KpH N h h') {c : Addr} {v : Option Value} (hn : h.IsCell c v) : h'.IsCell c v := by
  obtain ⟨o, e, r⟩ := hn
  obtain ⟨sl, e1, _⟩ := x c o e
  exact ⟨_, e1, r⟩
theorem KpH.list {h h' : Heap} (x : KpH N h h') {a : Addr} {vs : Array Value} (hl : h.IsList a vs) : h'.IsList a vs := by
  obtain ⟨o, e, r⟩ := hl
  obtain ⟨sl, e1, _⟩ := x a o e
  exact ⟨_, e1, r⟩
theorem KpH.noLimit {h h' : Heap} (x : KpH N h h') (hl : h.NoLimit) : h'.NoLimit := let ⟨mc, a, b⟩ := hl; ⟨mc, x.ns a, b⟩
mutual
theorem reads_kp {h h' : Heap} (hk : KpH N h h') : ∀ {v : Value} {d : PyData} {as : List Addr}, Reads h v d as → Reads h' v d as
  | _, _, _, .none => .none
  | _, _, _, .bool b => .bool b
  | _, _, _, .int i t => .int i t
  | _, _, _, .str x t => .str x t
  | _, _, _, .list ho hc hd ha => by obtain ⟨sl, e, _⟩ := hk _ _ ho; exact .list e hc hd (readsAll_kp hk ha)
  | _, _, _, .tuple ho hc hd ha => by obtain ⟨sl, e, _⟩ := hk _ _ ho; exact .tuple e hc hd (readsAll_kp hk ha)
  | _, _, _, .dict ho hc hd ha hb => by obtain ⟨sl, e, _⟩ := hk _ _ ho; exact .dict e hc hd (readsAll_kp hk ha) (readsAll_kp hk hb)
theorem readsAll_kp {h h' : Heap} (hk : KpH N h h') : ∀ {vs : List Value} {ds : List PyData} {as : List Addr}, ReadsAll h vs ds as → ReadsAll h' vs ds as
  | _, _, _, .nil => .nil
  | _, _, _, .cons h1 h2 => .cons (reads_kp hk h1) (readsAll_kp hk h2)
end

inductive Vl where
  | d (x : PyData)
  | i (C : Addr) (fs : List (Str × PyData))

def Dok (w : World) (h : Heap) (as : List Addr) : Prop :=
  ∀ a ∈ as, ∃ o, h.get? a = some o ∧ ∀ es n, o.data = .dict es n → a ≠ sysModules ∧ (o.cls = .type "dict" ∧ o.dict = none ∧ o.slots = #[]) ∧ ∀ e ∈ es.toList, ∃ x t, e.key = .str x t ∧ e.hash = PyData.keyHash w.params x

def Rep (w : World) (R : Addr → Prop) (h : Heap) (v : Value) (d : PyData) : Prop := ∃ as, Reads h v d as ∧ (∀ a ∈ as, R a) ∧ Dok w h as

def FieldsRep (w : World) (R : Addr → Prop) (h : Heap) : List DictEntry → List (Str × PyData) → Prop
  | [], [] => True
  | e :: es, (x, d) :: fs => (∃ t, e.key = .str x t) ∧ e.hash = PyData.keyHash w.params x ∧ Rep w R h e.val d ∧ FieldsRep w R h es fs
  | _, _ => False

def InstRep (w : World) (R : Addr → Prop) (h : Heap) (v : Value) (C : Addr) (fs : List (Str × PyData)) : Prop :=
  ∃ x dx es n, v = .ref x ∧ R x ∧ R dx ∧ h.get? x = some { cls := .ref C, dict := some dx } ∧
    h.get? dx = some { cls := .type "dict", data := .dict (List.toArray es) n } ∧ FieldsRep w R h es fs

def RepV (w : World) (R : Addr → Prop) (h : Heap) (v : Value) : Vl → Prop
  | .d d => Rep w R h v d
  | .i C fs => InstRep w R h v C fs

section
variable {w : World} {R R' : Addr → Prop} {h h' : Heap} {v : Value}

theorem Dok.keeps {as : List Addr} (x : Dok w h as) (hk : KpH N h h') : Dok w h' as :=
  fun a ha => by
    obtain ⟨o, ho, r⟩ := x a ha
    obtain ⟨sl, e, f⟩ := hk a o ho
    refine ⟨_, e, fun es n q => ?_⟩
    obtain ⟨r1, r2, r3⟩ := r es n q
    exact ⟨r1, ⟨r2.1, r2.2.1, (f (.inl (by rw [r2.1]; simp))).trans r2.2.2⟩, r3⟩
theorem Dok.append {as bs : List Addr} (x : Dok w h as) (y : Dok w h bs) : Dok w h (as ++ bs) :=
  fun a ha => (List.mem_append.mp ha).elim (x a) (y a)
theorem Dok.nil : Dok w h [] := fun _ ha => (nomatch ha)
theorem Rep.keeps {d : PyData} (x : Rep w R h v d) (hk : KpH N h h') : Rep w R h' v d :=
  let ⟨as, r, hr, hd⟩ := x; ⟨as, reads_kp hk r, hr, hd.keeps hk⟩
theorem Rep.mono {d : PyData} (x : Rep w R h v d) (hR : ∀ a, R a → R' a) : Rep w R' h v d :=
  let ⟨as, r, hr, hd⟩ := x; ⟨as, r, fun a ha => hR a (hr a ha), hd⟩
theorem FieldsRep.keeps (hk : KpH N h h') : ∀ {es : List DictEntry} {fs : List (Str × PyData)}, FieldsRep w R h es fs → FieldsRep w R h' es fs
  | [], [], _ => trivial
  | _ :: _, (_, _) :: _, ⟨a, b, c, r⟩ => ⟨a, b, c.keeps hk, FieldsRep.keeps hk r⟩
theorem FieldsRep.mono (hR : ∀ a, R a → R' a) : ∀ {es : List DictEntry} {fs : List (Str × PyData)}, FieldsRep w R h es fs → FieldsRep w R' h es fs
  | [], [], _ => trivial
  | _ :: _, (_, _) :: _, ⟨a, b, c, r⟩ => ⟨a, b, c.mono hR, FieldsRep.mono hR r⟩
theorem RepV.keeps {x : Vl} (r : RepV w R h v x) (hk : KpH N h h') : RepV w R h' v x := by
  cases x with
  | d x => exact Rep.keeps r hk
  | i C fs =>
    obtain ⟨x, dx, es, n, a1, a2, a3, a4, a5, a6⟩ := r
    exact ⟨x, dx, es, n, a1, a2, a3, hk.get a4 (by simp), hk.get a5 (by simp), a6.keeps hk⟩
theorem RepV.mono {x : Vl} (r : RepV w R h v x) (hR : ∀ a, R a → R' a) : RepV w R' h v x := by
  cases x with
  | d x => exact Rep.mono r hR
  | i C fs =>
    obtain ⟨x, dx, es, n, a1, a2, a3, a4, a5, a6⟩ := r
    exact ⟨x, dx, es, n, a1, hR _ a2, hR _ a3, a4, a5, a6.mono hR⟩
theorem rep_none : Rep w R h .none .none := ⟨[], .none, fun _ ha => (nomatch ha), .nil⟩
theorem rep_bool (b : Bool) : Rep w R h (.bool b) (.bool b) := ⟨[], .bool b, fun _ ha => (nomatch ha), .nil⟩
theorem rep_int (i : Int) (t : Tok) : Rep w R h (.int i t) (.int i) := ⟨[], .int i t, fun _ ha => (nomatch ha), .nil⟩
theorem rep_str (x : Str) (t : Tok) : Rep w R h (.str x t) (.str x) := ⟨[], .str x t, fun _ ha => (nomatch ha), .nil⟩
theorem Rep.int_inv {i : Int} (x : Rep w R h v (.int i)) : ∃ t, v = .int i t := by
  obtain ⟨as, r, _⟩ := x; cases r; exact ⟨_, rfl⟩
theorem Rep.bool_inv {b : Bool} (x : Rep w R h v (.bool b)) : v = .bool b := by
  obtain ⟨as, r, _⟩ := x; cases r; rfl
theorem Rep.none_inv (x : Rep w R h v .none) : v = .none := by
  obtain ⟨as, r, _⟩ := x; cases r; rfl
theorem Rep.str_inv {y : Str} (x : Rep w R h v (.str y)) : ∃ t, v = .str y t := by
  obtain ⟨as, r, _⟩ := x; cases r; exact ⟨_, rfl⟩
end

def RepAll (w : World) (R : Addr → Prop) (h : Heap) (vs : List Value) (ds : List PyData) : Prop := ∃ as, ReadsAll h vs ds as ∧ (∀ a ∈ as, R a) ∧ Dok w h as
section
variable {w : World} {R R' : Addr → Prop} {h h' : Heap} {v : Value} {vs ws : List Value} {ds es : List PyData} {d : PyData}
theorem RepAll.nil : RepAll w R h [] [] := ⟨[], .nil, fun _ ha => (nomatch ha), .nil⟩
theorem RepAll.cons (x : Rep w R h v d) (y : RepAll w R h vs ds) : RepAll w R h (v :: vs) (d :: ds) := by
  obtain ⟨as, r, hr, hd⟩ := x
  obtain ⟨bs, q, hq, he⟩ := y
  exact ⟨as ++ bs, .cons r q, fun a ha => (List.mem_append.mp ha).elim (hr a) (hq a), hd.append he⟩
theorem RepAll.cons_inv (x : RepAll w R h (v :: vs) (d :: ds)) : Rep w R h v d ∧ RepAll w R h vs ds := by
  obtain ⟨as, r, hr, hd⟩ := x
  cases r with
  | cons r1 r2 => exact ⟨⟨_, r1, fun a ha => hr a (List.mem_append_left _ ha), fun a ha => hd a (List.mem_append_left _ ha)⟩, ⟨_, r2, fun a ha => hr a (List.mem_append_right _ ha), fun a ha => hd a (List.mem_append_right _ ha)⟩⟩
theorem RepAll.length : ∀ {vs : List Value} {ds : List PyData}, RepAll w R h vs ds → vs.length = ds.length
  | [], [], _ => rfl
  | [], _ :: _, ⟨_, r, _⟩ => nomatch r
  | _ :: _, [], ⟨_, r, _⟩ => nomatch r
  | _ :: _, _ :: _, x => by simp [x.cons_inv.2.length]
theorem RepAll.keeps (x : RepAll w R h vs ds) (hk : KpH N h h') : RepAll w R h' vs ds :=
  let ⟨as, r, hr, hd⟩ := x; ⟨as, readsAll_kp hk r, hr, hd.keeps hk⟩
theorem RepAll.mono (x : RepAll w R h vs ds) (hR : ∀ a, R a → R' a) : RepAll w R' h vs ds :=
  let ⟨as, r, hr, hd⟩ := x; ⟨as, r, fun a ha => hR a (hr a ha), hd⟩
theorem RepAll.append : ∀ {vs : List Value} {ds : List PyData}, RepAll w R h vs ds → RepAll w R h ws es → RepAll w R h (vs ++ ws) (ds ++ es)
  | [], [], _, y => y
  | [], _ :: _, ⟨_, r, _⟩, _ => nomatch r
  | _ :: _, [], ⟨_, r, _⟩, _ => nomatch r
  | _ :: _, _ :: _, x, y => .cons x.cons_inv.1 (x.cons_inv.2.append y)
theorem RepAll.get : ∀ {vs : List Value} {ds : List PyData} (i : Nat), RepAll w R h vs ds → ∀ d, ds[i]? = some d → ∃ v, vs[i]? = some v ∧ Rep w R h v d
  | [], [], _, _, _, e => by simp at e
  | [], _ :: _, _, ⟨_, r, _⟩, _, _ => nomatch r
  | _ :: _, [], _, ⟨_, r, _⟩, _, _ => nomatch r
  | v :: _, _ :: _, 0, x, _, e => by simp at e; subst e; exact ⟨v, rfl, x.cons_inv.1⟩
  | _ :: _, _ :: _, i + 1, x, d, e => by simpa using x.cons_inv.2.get i d (by simpa using e)
theorem RepAll.drop : ∀ (k : Nat) {vs : List Value} {ds : List PyData}, RepAll w R h vs ds → RepAll w R h (vs.drop k) (ds.drop k)
  | 0, _, _, x => x
  | _ + 1, [], [], x => x
  | _ + 1, [], _ :: _, ⟨_, r, _⟩ => nomatch r
  | _ + 1, _ :: _, [], ⟨_, r, _⟩ => nomatch r
  | k + 1, _ :: _, _ :: _, x => x.cons_inv.2.drop k
theorem RepAll.take : ∀ (k : Nat) {vs : List Value} {ds : List PyData}, RepAll w R h vs ds → RepAll w R h (vs.take k) (ds.take k)
  | 0, _, _, _ => by simpa using RepAll.nil
  | _ + 1, [], [], x => x
  | _ + 1, [], _ :: _, ⟨_, r, _⟩ => nomatch r
  | _ + 1, _ :: _, [], ⟨_, r, _⟩ => nomatch r
  | k + 1, _ :: _, _ :: _, x => .cons x.cons_inv.1 (x.cons_inv.2.take k)
theorem Rep.list_inv {xs : List PyData} (x : Rep w R h v (.list xs)) : ∃ a vs, v = .ref a ∧ R a ∧ h.IsList a (List.toArray vs) ∧ RepAll w R h vs xs := by
  obtain ⟨as, r, hr, hd⟩ := x
  cases r with
  | @list a o vs n _ as ho hc hdat hall =>
    exact ⟨a, vs.toList, rfl, hr a (.head _), ⟨o, ho, hc, n, by simpa using hdat⟩, ⟨as, hall, fun b hb => hr b (.tail _ hb), fun b hb => hd b (.tail _ hb)⟩⟩
theorem Rep.tuple_inv {xs : List PyData} (x : Rep w R h v (.tuple xs)) : ∃ a o vs n, v = .ref a ∧ h.get? a = some o ∧ o.cls = .type "tuple" ∧ o.data = .seq (List.toArray vs) n ∧ RepAll w R h vs xs := by
  obtain ⟨as, r, hr, hd⟩ := x
  cases r with
  | @tuple a o vs n _ as ho hc hdat hall => exact ⟨a, o, vs.toList, n, rfl, ho, hc, by simpa using hdat, ⟨as, hall, hr, hd⟩⟩
theorem rep_list {a : Addr} {vs : List Value} {xs : List PyData} (hR : R a) (hl : h.IsList a (List.toArray vs)) (x : RepAll w R h vs xs) : Rep w R h (.ref a) (.list xs) := by
  obtain ⟨as, r, hr, hd⟩ := x
  obtain ⟨o, ho, hc, n, hdat⟩ := hl
  refine ⟨a :: as, .list ho hc hdat (by simpa using r), fun b hb => (List.mem_cons.mp hb).elim (fun e => e ▸ hR) (hr b), fun b hb => (List.mem_cons.mp hb).elim (fun e => ⟨o, e ▸ ho, fun es n' q => ?_⟩) (hd b)⟩
  rw [hdat] at q; cases q
theorem rep_tuple {a : Addr} {o : Obj} {vs : List Value} {n : Nat} {xs : List PyData} (ho : h.get? a = some o) (hc : o.cls = .type "tuple") (hdat : o.data = .seq (List.toArray vs) n) (x : RepAll w R h vs xs) : Rep w R h (.ref a) (.tuple xs) := by
  obtain ⟨as, r, hr, hd⟩ := x
  exact ⟨as, .tuple ho hc hdat (by simpa using r), hr, hd⟩
end

mutual
def still : PyData → Bool
  | .none | .bool _ | .int _ | .str _ => true
  | .tuple xs => stillAll xs
  | .list _ | .dict _ => false
def stillAll : List PyData → Bool
  | [] => true
  | x :: xs => still x && stillAll xs
end
mutual
theorem still_reads {h : Heap} {v : Value} : ∀ {d : PyData} {as : List Addr}, still d = true → Reads h v d as → as = []
  | .none, _, _, .none => rfl
  | .bool _, _, _, .bool _ => rfl
  | .int _, _, _, .int _ _ => rfl
  | .str _, _, _, .str _ _ => rfl
  | .tuple _, _, hs, .tuple _ _ _ ha => still_readsAll (by simpa [still] using hs) ha
  | .list _, _, hs, _ => by simp [still] at hs
  | .dict _, _, hs, _ => by simp [still] at hs
theorem still_readsAll {h : Heap} : ∀ {ds : List PyData} {vs : List Value} {as : List Addr}, stillAll ds = true → ReadsAll h vs ds as → as = []
  | [], _, _, _, .nil => rfl
  | _ :: _, _, _, hs, .cons h1 h2 => by
    simp [stillAll] at hs
    rw [still_reads hs.1 h1, still_readsAll hs.2 h2]; rfl
end
theorem Rep.still {w : World} {R R' : Addr → Prop} {h : Heap} {v : Value} {d : PyData} (x : Rep w R h v d) (hs : still d = true) : Rep w R' h v d := by
  obtain ⟨as, r, _, hd⟩ := x
  have := still_reads hs r
  subst this
  exact ⟨[], r, fun _ ha => (nomatch ha), hd⟩
theorem RepAll.still {w : World} {R R' : Addr → Prop} {h : Heap} {vs : List Value} {ds : List PyData} (x : RepAll w R h vs ds) (hs : stillAll ds = true) : RepAll w R' h vs ds := by
  obtain ⟨as, r, _, hd⟩ := x
  have := still_readsAll hs r
  subst this
  exact ⟨[], r, fun _ ha => (nomatch ha), hd⟩

end Mine
end
section
open PySem PySem.Calls PyProof.Rows
set_option linter.all false
namespace Mine
variable {N : Nat}

structure St where
  prog : Program
  w : World
  mg : Str → Option Value
  mb : Str → Option Value
  K : List (Addr × Obj)
  N : Nat
abbrev St.M (T : St) : Model := model T.prog T.w

structure Wd (T : St) (h : Heap) : Prop where
  g : h.Ns mainGlobals T.mg
  b : h.Ns builtinsNs T.mb
  lim : h.NoLimit
  k : ∀ a o, T.K.lookup a = some o → h.get? a = some o
  kn : ∀ a o, T.K.lookup a = some o → a < T.N
theorem Wd.kp {T : St} {h h' : Heap} (x : Wd T h) (hk : KpH T.N h h') : Wd T h' := ⟨hk.ns x.g, hk.ns x.b, hk.noLimit x.lim, fun a o e => by
  obtain ⟨sl, e1, f1⟩ := hk a o (x.k a o e)
  rw [e1, f1 (.inr (.inl (x.kn a o e)))], x.kn⟩

def Kp (N : Nat) (s s' : Shared) : Prop := ∃ h' tk, s' = { s with heap := h', toks := tk } ∧ KpH N s.heap h'
theorem Kp.refl (s : Shared) : Kp N s s := ⟨s.heap, s.toks, rfl, .refl _⟩
theorem Kp.h {s s' : Shared} (x : Kp N s s') : KpH N s.heap s'.heap := by obtain ⟨h', tk, rfl, hk⟩ := x; exact hk
theorem Kp.trans {s₁ s₂ s₃ : Shared} (x : Kp N s₁ s₂) (y : Kp N s₂ s₃) : Kp N s₁ s₃ := by
  obtain ⟨h', tk, rfl, hk⟩ := x
  obtain ⟨h'', tk', rfl, hk'⟩ := y
  exact ⟨h'', tk', rfl, hk.trans hk'⟩
theorem Kp.of {s s' : Shared} (x : Keeps s s') : Kp N s s' := by obtain ⟨h', tk, rfl, hk⟩ := x; exact ⟨h', tk, rfl, .of hk⟩
theorem Kp.tok (s : Shared) (t : Nat) : Kp N s { s with toks := t } := ⟨s.heap, t, rfl, .refl _⟩
theorem Kp.push (s : Shared) (o : Obj) : Kp N s { s with heap := s.heap.push o } := ⟨_, s.toks, rfl, (KpH.refl _).push o⟩
theorem Kp.mk {s : Shared} {h' : Heap} {tk : Nat} (hk : KpH N s.heap h') : Kp N s { s with heap := h', toks := tk } := ⟨h', tk, rfl, hk⟩

structure Amb (n : Nat) (A : Around) : Prop where
  handled : A.handled = none
  depth : A.depth + n < recursionLimit
  units : A.units + 10 * n + 100 < cLine
theorem Amb.le {n m : Nat} {A : Around} (x : Amb n A) (h : m ≤ n) : Amb m A := ⟨x.handled, by have := x.depth; omega, by have := x.units; omega⟩
theorem Amb.deeper {n : Nat} {A : Around} (x : Amb (n + 1) A) (env : Env) : Amb n (A.deeper env) :=
  ⟨x.handled, by have := x.depth; show A.depth + 1 + n < _; omega, by have := x.units; simp only [Around.deeper_units]; omega⟩

abbrev Slot := Option (Vl × Fl)
abbrev Gm := List (Str × Slot)
structure GmOk (ns : List Str) : Prop where
  nodup : ns.Nodup
  nodebug : ∀ x ∈ ns, (x == ("__debug__" : Str)) = false

structure EnvOk (env : Env) : Prop where
  kind : env.scope.kind = .function
  g : env.globals = mainGlobals
  b : env.builtins = builtinsNs
  cells : ∀ x, env.kindOf x = some .cell → ∃ c, env.cells.lookup x = some c

def NameIs (env : Env) (h : Heap) (x : Str) (v : Value) : Prop :=
  (env.kindOf x = some .local ∧ ∃ m, h.Ns env.locals m ∧ m x = some v) ∨ (env.kindOf x = some .cell ∧ ∃ c, env.cells.lookup x = some c ∧ h.IsCell c (some v))
theorem NameIs.kp {env : Env} {h h' : Heap} {x : Str} {v : Value} (r : NameIs env h x v) (hk : KpH N h h') : NameIs env h' x v := by
  rcases r with ⟨k, m, hn, hv⟩ | ⟨k, c, hc, hv⟩
  · exact .inl ⟨k, m, hk.ns hn, hv⟩
  · exact .inr ⟨k, c, hc, hk.cell hv⟩

structure Regs (reg : Fl → Addr → Prop) (h : Heap) : Prop where
  fresh : ∀ fl a, h.get? a = none → reg fl a
  cb : ∀ a, reg .c a → reg .b a
  bo : ∀ a, reg .b a → reg .o a
  os : ∀ x a, reg .o a → reg (.s x) a
theorem Regs.kp {reg : Fl → Addr → Prop} {h h' : Heap} (x : Regs reg h) (hk : KpH N h h') : Regs reg h' := ⟨fun fl a e => x.fresh fl a (hk.none e), x.cb, x.bo, x.os⟩
theorem Regs.up {reg : Fl → Addr → Prop} {h : Heap} (x : Regs reg h) (fl : Fl) : ∀ a, reg .c a → reg fl a := fun a ha => by
  cases fl
  · exact ha
  · exact x.cb a ha
  · exact x.bo a (x.cb a ha)
  · exact x.os _ a (x.bo a (x.cb a ha))

structure Rd (T : St) (env : Env) (reg : Fl → Addr → Prop) (Γ : Gm) (s : Shared) : Prop where
  eok : EnvOk env
  ok : GmOk (Γ.map (·.1))
  names : ∀ x v fl, (x, some (v, fl)) ∈ Γ → ∃ val, NameIs env s.heap x val ∧ RepV T.w (reg fl) s.heap val v
  regs : Regs reg s.heap
  wd : Wd T s.heap
theorem Rd.kp {T : St} {env : Env} {reg : Fl → Addr → Prop} {Γ : Gm} {s s' : Shared} (x : Rd T env reg Γ s) (hk : Kp T.N s s') : Rd T env reg Γ s' :=
  ⟨x.eok, x.ok, fun n v fl hm => let ⟨val, a, b⟩ := x.names n v fl hm; ⟨val, a.kp hk.h, b.keeps hk.h⟩, x.regs.kp hk.h, x.wd.kp hk.h⟩

def FreshTop (h h' : Heap) (v : Value) (d : PyData) (as : List Addr) : Prop := match d with
  | .list _ | .dict _ => ∃ a as', v = .ref a ∧ as = a :: as' ∧ h.get? a = none ∧ a ∉ as' ∧ ∃ o, h'.get? a = some o ∧ o.dict = none
  | _ => True
def RepF (w : World) (R : Addr → Prop) (h h' : Heap) (v : Value) (d : PyData) : Prop := ∃ as, Reads h' v d as ∧ (∀ a ∈ as, R a) ∧ Dok w h' as ∧ FreshTop h h' v d as
theorem RepF.rep {w : World} {R : Addr → Prop} {h h' : Heap} {v : Value} {d : PyData} (x : RepF w R h h' v d) : Rep w R h' v d := let ⟨as, a, b, c, _⟩ := x; ⟨as, a, b, c⟩
theorem FreshTop.older {h h₀ h' : Heap} {v : Value} {d : PyData} {as : List Addr} (x : FreshTop h h' v d as) (hk : KpH N h₀ h) : FreshTop h₀ h' v d as := by
  cases d <;> first | trivial | (obtain ⟨a, as', e1, e2, e3, e4, e5⟩ := x; exact ⟨a, as', e1, e2, hk.none e3, e4, e5⟩)
theorem RepF.older {w : World} {R : Addr → Prop} {h₀ h h' : Heap} {v : Value} {d : PyData} (x : RepF w R h h' v d) (hk : KpH N h₀ h) : RepF w R h₀ h' v d :=
  let ⟨as, a, b, c, f⟩ := x; ⟨as, a, b, c, f.older hk⟩
theorem RepF.mono {w : World} {R R' : Addr → Prop} {h h' : Heap} {v : Value} {d : PyData} (x : RepF w R h h' v d) (hR : ∀ a, R a → R' a) : RepF w R' h h' v d :=
  let ⟨as, a, b, c, f⟩ := x; ⟨as, a, fun y hy => hR y (b y hy), c, f⟩
theorem RepF.of_still {w : World} {R : Addr → Prop} {h h' : Heap} {v : Value} {d : PyData} (x : Rep w R h' v d) (hs : still d = true) : RepF w R h h' v d := by
  obtain ⟨as, a, b, c⟩ := x
  refine ⟨as, a, b, c, ?_⟩
  cases d <;> first | trivial | simp [still] at hs
theorem RepF.tuple {w : World} {R : Addr → Prop} {h h' : Heap} {v : Value} {xs : List PyData} (x : Rep w R h' v (.tuple xs)) : RepF w R h h' v (.tuple xs) := by
  obtain ⟨as, a, b, c⟩ := x
  exact ⟨as, a, b, c, trivial⟩
section
variable {w : World} {R : Addr → Prop} {h h' : Heap}
theorem repF_none : RepF w R h h' .none .none := .of_still rep_none rfl
theorem repF_bool (b : Bool) : RepF w R h h' (.bool b) (.bool b) := .of_still (rep_bool b) rfl
theorem repF_int (i : Int) (t : Tok) : RepF w R h h' (.int i t) (.int i) := .of_still (rep_int i t) rfl
theorem repF_str (x : Str) (t : Tok) : RepF w R h h' (.str x t) (.str x) := .of_still (rep_str x t) rfl
theorem repF_list {a : Addr} {vs : List Value} {xs : List PyData} {n : Nat} {o : Obj} (hR : ∀ b, h.get? b = none → R b) (hn : h.get? a = none) (ho : h'.get? a = some o) (hc : o.cls = .type "list") (hdat : o.data = .seq (List.toArray vs) n) (hdi : o.dict = none)
    (x : RepAll w R h vs xs) (hk : KpH N h h') : RepF w R h h' (.ref a) (.list xs) := by
  obtain ⟨as, r, hr, hd⟩ := x
  refine ⟨a :: as, .list ho hc hdat (by simpa using readsAll_kp hk r), fun b hb => (List.mem_cons.mp hb).elim (fun e => e ▸ hR a hn) (hr b), fun b hb => (List.mem_cons.mp hb).elim (fun e => ⟨o, e ▸ ho, fun es n' q => ?_⟩) ((hd.keeps hk) b), a, as, rfl, rfl, hn, fun ha => ?_, o, ho, hdi⟩
  · rw [hdat] at q; cases q
  · obtain ⟨o', e, _⟩ := hd a ha
    rw [hn] at e; cases e
theorem repF_listP {s : Shared} {vs : List Value} {xs : List PyData} {n : Nat} (hR : ∀ b, s.heap.get? b = none → R b) (x : RepAll w R s.heap vs xs) :
    RepF w R s.heap (s.heap.push { cls := .type "list", data := .seq (List.toArray vs) n }) (.ref s.heap.objs.size) (.list xs) :=
  repF_list (N := 0) hR (Heap.get?_none_of_le (Nat.le_refl _)) (Heap.get?_push_size _ rfl) rfl rfl rfl x ((KpH.refl _).push _)
end

structure Ev (T : St) (n : Nat) (env : Env) (Γ : Gm) (e : PySem.Expr) (v : Vl) (fl : Fl) : Prop where
  run : ∀ {A : Around} {reg : Fl → Addr → Prop} {s : Shared} {E : Value → Shared → Prop} {Q : Value → Shared → Prop}, Amb n A → Rd T env reg Γ s →
    (∀ val s', Kp T.N s s' → RepV T.w (reg fl) s'.heap val v → Q val s') → wpAny T.M A (eval e env) Q E s
structure EvF (T : St) (n : Nat) (env : Env) (Γ : Gm) (e : PySem.Expr) (d : PyData) : Prop where
  run : ∀ {A : Around} {reg : Fl → Addr → Prop} {s : Shared} {E : Value → Shared → Prop} {Q : Value → Shared → Prop}, Amb n A → Rd T env reg Γ s →
    (∀ val s', Kp T.N s s' → RepF T.w (reg .c) s.heap s'.heap val d → Q val s') → wpAny T.M A (eval e env) Q E s
structure IsT (T : St) (n : Nat) (env : Env) (Γ : Gm) (e : PySem.Expr) (b : Bool) : Prop where
  run : ∀ {A : Around} {reg : Fl → Addr → Prop} {s : Shared} {E : Value → Shared → Prop} {Q : Bool → Shared → Prop}, Amb n A → Rd T env reg Γ s →
    (∀ s', Kp T.N s s' → Q b s') → wpAny T.M A (isTrue e env (eval e env)) Q E s

section
variable {T : St} {n : Nat} {env : Env} {Γ : Gm}

theorem Ev.ofF {e : PySem.Expr} {d : PyData} (x : EvF T n env Γ e d) : Ev T n env Γ e (.d d) .c := ⟨fun hA R h => x.run hA R fun val s' k r => h val s' k r.rep⟩
theorem Ev.still {e : PySem.Expr} {d : PyData} {fl : Fl} (x : Ev T n env Γ e (.d d) fl) (hs : still d = true) : EvF T n env Γ e d :=
  ⟨fun hA R h => x.run hA R fun val s' k r => h val s' k (.of_still (Rep.still r hs) hs)⟩

theorem Ev.name {x : Str} {pos : Pos} {v : Vl} {fl : Fl} (hm : (x, some (v, fl)) ∈ Γ) : Ev T n env Γ (.Name x pos) v fl := ⟨fun hA R h => by
  obtain ⟨val, hv, hr⟩ := R.names x v fl hm
  have hd := R.ok.nodebug x (List.mem_map.mpr ⟨_, hm, rfl⟩)
  rcases hv with ⟨k, m, hn, hv⟩ | ⟨k, c, hc, hv⟩
  · exact wpAny_Name (wpAny_loadName_local R.eok.kind k hn hv (h val _ (.refl _) hr)) hd
  · exact wpAny_Name (wpAny_loadName_cell R.eok.kind k hc hv (h val _ (.refl _) hr)) hd⟩
theorem EvF.glob {x : Str} {pos : Pos} {y : Str} {t : Tok} (hx : env.kindOf x = some .globalImplicit) (hg : T.mg x = some (.str y t)) (hd : (x == ("__debug__" : Str)) = false) : EvF T n env Γ (.Name x pos) (.str y) := ⟨fun hA R h =>
  Name_function_global R.eok.kind hx (loadGlobal_global (by rw [R.eok.g]; exact R.wd.g) hg (h _ _ (.refl _) (repF_str ..))) hd⟩

theorem EvF.kNone {k : Nat} {pos : Pos} : EvF T n env Γ (.Constant .none k pos) .none := ⟨fun _ _ h => wpAny_pure (h _ _ (.refl _) repF_none)⟩
theorem EvF.kBool {b : Bool} {k : Nat} {pos : Pos} : EvF T n env Γ (.Constant (.bool b) k pos) (.bool b) := ⟨fun _ _ h => wpAny_pure (h _ _ (.refl _) (repF_bool b))⟩
theorem EvF.kInt {i : Int} {k : Nat} {pos : Pos} : EvF T n env Γ (.Constant (.int i) k pos) (.int i) := ⟨fun _ _ h => wpAny_mkInt (h _ _ (.tok _ _) (repF_int ..))⟩
theorem EvF.kStr {x : Str} {k : Nat} {pos : Pos} : EvF T n env Γ (.Constant (.str x) k pos) (.str x) := ⟨fun _ _ h => wpAny_mkText (h _ _ (.tok _ _) (repF_str ..))⟩

structure Bin (T : St) (n : Nat) (op : Operator) (v₁ : Vl) (f₁ : Fl) (v₂ : Vl) (f₂ : Fl) (d : PyData) : Prop where
  run : ∀ {A : Around} {reg : Fl → Addr → Prop} {s : Shared} {E : Value → Shared → Prop} {Q : Value → Shared → Prop} {a b : Value}, Amb n A → Regs reg s.heap → Wd T s.heap → RepV T.w (reg f₁) s.heap a v₁ → RepV T.w (reg f₂) s.heap b v₂ →
    (∀ val s', Kp T.N s s' → RepF T.w (reg .c) s.heap s'.heap val d → Q val s') → wpAny T.M A (binaryOp op a b) Q E s
theorem EvF.bin {l r : PySem.Expr} {op : Operator} {pos : Pos} {v₁ v₂ : Vl} {f₁ f₂ : Fl} {d : PyData} (h₁ : Ev T n env Γ l v₁ f₁) (h₂ : Ev T n env Γ r v₂ f₂) (hb : Bin T n op v₁ f₁ v₂ f₂ d) : EvF T n env Γ (.BinOp l op r pos) d := ⟨fun hA R h =>
  wpAny_BinOp (h₁.run hA R fun a s₁ k₁ r₁ => h₂.run hA (R.kp k₁) fun b s₂ k₂ r₂ => hb.run hA ((R.regs.kp k₁.h).kp k₂.h) ((R.wd.kp k₁.h).kp k₂.h) (r₁.keeps k₂.h) r₂ fun val s₃ k₃ r₃ =>
    h val s₃ ((k₁.trans k₂).trans k₃) (r₃.older (k₁.trans k₂).h))⟩

section
variable {f₁ f₂ : Fl}
theorem Bin.addI {a b : Int} : Bin T n .Add (.d (.int a)) f₁ (.d (.int b)) f₂ (.int (a + b)) := ⟨fun _ _ _ r₁ r₂ h => by
  obtain ⟨t, rfl⟩ := Rep.int_inv r₁; obtain ⟨u, rfl⟩ := Rep.int_inv r₂
  exact PyProof.Rows.add_int (h _ _ (.tok _ _) (repF_int ..))⟩
theorem Bin.subI {a b : Int} : Bin T n .Sub (.d (.int a)) f₁ (.d (.int b)) f₂ (.int (a - b)) := ⟨fun _ _ _ r₁ r₂ h => by
  obtain ⟨t, rfl⟩ := Rep.int_inv r₁; obtain ⟨u, rfl⟩ := Rep.int_inv r₂
  exact PyProof.Rows.sub_int (h _ _ (.tok _ _) (repF_int ..))⟩
theorem Bin.mulI {a b : Int} (hm : IntMulOk a b) : Bin T n .Mult (.d (.int a)) f₁ (.d (.int b)) f₂ (.int (a * b)) := ⟨fun _ _ _ r₁ r₂ h => by
  obtain ⟨t, rfl⟩ := Rep.int_inv r₁; obtain ⟨u, rfl⟩ := Rep.int_inv r₂
  exact PyProof.Rows.mul_int (h _ _ (.tok _ _) (repF_int ..)) hm⟩
theorem Bin.modI {a b : Int} (hb : b ≠ 0) : Bin T n .Mod (.d (.int a)) f₁ (.d (.int b)) f₂ (.int (a.fmod b)) := ⟨fun _ _ _ r₁ r₂ h => by
  obtain ⟨t, rfl⟩ := Rep.int_inv r₁; obtain ⟨u, rfl⟩ := Rep.int_inv r₂
  exact PyProof.Rows.mod_int' hb (h _ _ (.tok _ _) (repF_int ..))⟩
theorem Bin.divI {a b : Int} (hb : b ≠ 0) (hp : Builtin.divisionGoesByPylong a b = false) : Bin T n .FloorDiv (.d (.int a)) f₁ (.d (.int b)) f₂ (.int (a.fdiv b)) := ⟨fun _ _ _ r₁ r₂ h => by
  obtain ⟨t, rfl⟩ := Rep.int_inv r₁; obtain ⟨u, rfl⟩ := Rep.int_inv r₂
  exact PyProof.Rows.floordiv_int hb (h _ _ (.tok _ _) (repF_int ..)) (.inl hp)⟩
end
end
end Mine
end
section
open PySem PySem.Calls PyProof.Rows
set_option linter.all false
namespace Mine
variable {N : Nat}

section
variable {T : St} {n : Nat} {env : Env} {Γ : Gm}

theorem Bin.addS {f₁ f₂ : Fl} {x y : Str} (hz : x.length + y.length ≤ sizeLine) : Bin T n .Add (.d (.str x)) f₁ (.d (.str y)) f₂ (.str (x ++ y)) := ⟨fun _ _ _ r₁ r₂ h => by
  obtain ⟨t, rfl⟩ := Rep.str_inv r₁; obtain ⟨u, rfl⟩ := Rep.str_inv r₂
  exact SB.add (fun t' k => h _ _ (.tok _ _) (repF_str ..)) hz⟩

structure Cmp (T : St) (n : Nat) (op : CmpOp) (v₁ v₂ : Vl) (b : Bool) : Prop where
  run : ∀ {A : Around} {R₁ R₂ : Addr → Prop} {s : Shared} {E : Value → Shared → Prop} {Q : Value → Shared → Prop} {x y : Value}, Amb n A → Wd T s.heap → RepV T.w R₁ s.heap x v₁ → RepV T.w R₂ s.heap y v₂ →
    (∀ s', Kp T.N s s' → Q (.bool b) s') → wpAny T.M A (compareOp op x y) Q E s
theorem EvF.cmp {l r : PySem.Expr} {op : CmpOp} {pos : Pos} {v₁ v₂ : Vl} {f₁ f₂ : Fl} {b : Bool} (h₁ : Ev T n env Γ l v₁ f₁) (h₂ : Ev T n env Γ r v₂ f₂) (hb : Cmp T n op v₁ v₂ b) (hm : behindInMarks op r = false) :
    EvF T n env Γ (.Compare l [op] [r] pos) (.bool b) := ⟨fun hA R h =>
  wpAny_Compare1 (h₁.run hA R fun x s₁ k₁ r₁ => h₂.run hA (R.kp k₁) fun y s₂ k₂ r₂ => hb.run hA ((R.wd.kp k₁.h).kp k₂.h) (r₁.keeps k₂.h) r₂ fun s₃ k₃ => h _ s₃ ((k₁.trans k₂).trans k₃) (repF_bool b)) hm⟩
theorem truthy_b {M : Model} {A : Around} {E : Value → Shared → Prop} {s : Shared} {b : Bool} {Q : Bool → Shared → Prop} (h : Q b s) : wpAny M A (truthy (.bool b)) Q E s := fun _ _ _ => h
theorem IsT.cmp {l r : PySem.Expr} {op : CmpOp} {pos : Pos} {v₁ v₂ : Vl} {f₁ f₂ : Fl} {b : Bool} (h₁ : Ev T n env Γ l v₁ f₁) (h₂ : Ev T n env Γ r v₂ f₂) (hb : Cmp T n op v₁ v₂ b) (hm : behindInMarks op r = false) :
    IsT T n env Γ (.Compare l [op] [r] pos) b := ⟨fun hA R h =>
  wpAny_isTrue_Compare1 (h₁.run hA R fun x s₁ k₁ r₁ => h₂.run hA (R.kp k₁) fun y s₂ k₂ r₂ => hb.run hA ((R.wd.kp k₁.h).kp k₂.h) (r₁.keeps k₂.h) r₂ fun s₃ k₃ => truthy_b (h s₃ ((k₁.trans k₂).trans k₃))) hm⟩
theorem IsT.bool {e : PySem.Expr} {b : Bool} {fl : Fl} (x : Ev T n env Γ e (.d (.bool b)) fl) (he : ∀ whole, isTrue e env whole = (do let v ← whole; standAt e.pos; holding [v] (truthy v))) : IsT T n env Γ e b := ⟨fun hA R h =>
  isTrue_plain (x.run hA R fun val s₁ k₁ r₁ => by rw [Rep.bool_inv r₁]; exact truthy_b (h _ k₁)) (he _)⟩
theorem IsT.not {e : PySem.Expr} {b : Bool} {pos : Pos} (x : IsT T n env Γ e b) : IsT T n env Γ (.UnaryOp .Not e pos) (!b) := ⟨fun hA R h => isTrue_not (x.run hA R h)⟩
theorem IsT.andNil {pos : Pos} : IsT T n env Γ (.BoolOp .And [] pos) true := ⟨fun hA R h => isTrue_and_nil (h _ (.refl _))⟩
theorem IsT.orNil {pos : Pos} : IsT T n env Γ (.BoolOp .Or [] pos) false := ⟨fun hA R h => isTrue_or_nil (h _ (.refl _))⟩
theorem IsT.and {e : PySem.Expr} {es : List PySem.Expr} {pos : Pos} {p q : Bool} (x : IsT T n env Γ e p) (y : p = true → IsT T n env Γ (.BoolOp .And es pos) q) : IsT T n env Γ (.BoolOp .And (e :: es) pos) (p && q) := ⟨fun hA R h => by
  refine isTrue_and (x.run hA R fun s₁ k₁ => ?_)
  cases p with
  | false => exact h _ k₁
  | true => exact (y rfl).run hA (R.kp k₁) fun s₂ k₂ => by simpa using h _ (k₁.trans k₂)⟩
theorem IsT.or {e : PySem.Expr} {es : List PySem.Expr} {pos : Pos} {p q : Bool} (x : IsT T n env Γ e p) (y : p = false → IsT T n env Γ (.BoolOp .Or es pos) q) : IsT T n env Γ (.BoolOp .Or (e :: es) pos) (p || q) := ⟨fun hA R h => by
  refine isTrue_or (x.run hA R fun s₁ k₁ => ?_)
  cases p with
  | true => exact h _ k₁
  | false => exact (y rfl).run hA (R.kp k₁) fun s₂ k₂ => by simpa using h _ (k₁.trans k₂)⟩
theorem EvF.bo1 {op : BoolOp} {e : PySem.Expr} {pos : Pos} {d : PyData} (x : EvF T n env Γ e d) : EvF T n env Γ (.BoolOp op [e] pos) d := ⟨fun hA R h => BoolOp_one (x.run hA R h)⟩
theorem EvF.and {e₁ e₂ : PySem.Expr} {es : List PySem.Expr} {pos : Pos} {p q : Bool} (x : EvF T n env Γ e₁ (.bool p)) (y : p = true → EvF T n env Γ (.BoolOp .And (e₂ :: es) pos) (.bool q)) : EvF T n env Γ (.BoolOp .And (e₁ :: e₂ :: es) pos) (.bool (p && q)) := ⟨fun hA R h => by
  refine BoolOp_and (x.run hA R fun val s₁ k₁ r₁ => ?_)
  rw [Rep.bool_inv r₁.rep]
  refine truthy_b ?_
  cases p with
  | false => exact h _ _ k₁ (repF_bool _)
  | true => exact (y rfl).run hA (R.kp k₁) fun v₂ s₂ k₂ r₂ => by simpa using h v₂ _ (k₁.trans k₂) (by simpa using r₂.older k₁.h)⟩
theorem EvF.or {e₁ e₂ : PySem.Expr} {es : List PySem.Expr} {pos : Pos} {p q : Bool} (x : EvF T n env Γ e₁ (.bool p)) (y : p = false → EvF T n env Γ (.BoolOp .Or (e₂ :: es) pos) (.bool q)) : EvF T n env Γ (.BoolOp .Or (e₁ :: e₂ :: es) pos) (.bool (p || q)) := ⟨fun hA R h => by
  refine BoolOp_or (x.run hA R fun val s₁ k₁ r₁ => ?_)
  rw [Rep.bool_inv r₁.rep]
  refine truthy_b ?_
  cases p with
  | true => exact h _ _ k₁ (repF_bool _)
  | false => exact (y rfl).run hA (R.kp k₁) fun v₂ s₂ k₂ r₂ => by simpa using h v₂ _ (k₁.trans k₂) (by simpa using r₂.older k₁.h)⟩

theorem Cmp.eqI {a b : Int} : Cmp T n .Eq (.d (.int a)) (.d (.int b)) (a == b) := ⟨fun _ _ r₁ r₂ h => by
  obtain ⟨t, rfl⟩ := Rep.int_inv r₁; obtain ⟨u, rfl⟩ := Rep.int_inv r₂; exact PyProof.Rows.eq_int (h _ (.refl _))⟩
theorem Cmp.neI {a b : Int} : Cmp T n .NotEq (.d (.int a)) (.d (.int b)) (a != b) := ⟨fun _ _ r₁ r₂ h => by
  obtain ⟨t, rfl⟩ := Rep.int_inv r₁; obtain ⟨u, rfl⟩ := Rep.int_inv r₂; exact PyProof.Rows.ne_int (h _ (.refl _))⟩
theorem Cmp.ltI {a b : Int} : Cmp T n .Lt (.d (.int a)) (.d (.int b)) (decide (a < b)) := ⟨fun _ _ r₁ r₂ h => by
  obtain ⟨t, rfl⟩ := Rep.int_inv r₁; obtain ⟨u, rfl⟩ := Rep.int_inv r₂; exact PyProof.Rows.lt_int (h _ (.refl _))⟩
theorem Cmp.gtI {a b : Int} : Cmp T n .Gt (.d (.int a)) (.d (.int b)) (decide (a > b)) := ⟨fun _ _ r₁ r₂ h => by
  obtain ⟨t, rfl⟩ := Rep.int_inv r₁; obtain ⟨u, rfl⟩ := Rep.int_inv r₂; exact PyProof.Rows.gt_int (h _ (.refl _))⟩
theorem Cmp.geI {a b : Int} : Cmp T n .GtE (.d (.int a)) (.d (.int b)) (decide (a ≥ b)) := ⟨fun _ _ r₁ r₂ h => by
  obtain ⟨t, rfl⟩ := Rep.int_inv r₁; obtain ⟨u, rfl⟩ := Rep.int_inv r₂; exact P.ge_int (h _ (.refl _))⟩
theorem str_beq (x y : Str) : (x.cps.toList == y.cps.toList) = decide (x = y) := by
  obtain ⟨⟨a⟩⟩ := x; obtain ⟨⟨b⟩⟩ := y
  rw [Bool.eq_iff_iff]; simp
theorem Cmp.eqS {a b : Str} : Cmp T n .Eq (.d (.str a)) (.d (.str b)) (decide (a = b)) := ⟨fun _ _ r₁ r₂ h => by
  obtain ⟨t, rfl⟩ := Rep.str_inv r₁; obtain ⟨u, rfl⟩ := Rep.str_inv r₂; exact P.eq_str (by rw [str_beq]; exact h _ (.refl _))⟩
theorem Cmp.neS {a b : Str} : Cmp T n .NotEq (.d (.str a)) (.d (.str b)) (decide (a ≠ b)) := ⟨fun _ _ r₁ r₂ h => by
  obtain ⟨t, rfl⟩ := Rep.str_inv r₁; obtain ⟨u, rfl⟩ := Rep.str_inv r₂
  refine P.ne_str ?_
  have e : (a.cps.toList != b.cps.toList) = decide (a ≠ b) := by show (!(a.cps.toList == b.cps.toList)) = _; rw [str_beq]; simp
  rw [e]; exact h _ (.refl _)⟩
theorem Cmp.inS {a b : Str} : Cmp T n .In (.d (.str a)) (.d (.str b)) (Txt.contains b a) := ⟨fun _ _ r₁ r₂ h => by
  obtain ⟨t, rfl⟩ := Rep.str_inv r₁; obtain ⟨u, rfl⟩ := Rep.str_inv r₂; exact SB.contains (h _ (.refl _))⟩
theorem Cmp.ninS {a b : Str} : Cmp T n .NotIn (.d (.str a)) (.d (.str b)) (!Txt.contains b a) := ⟨fun _ _ r₁ r₂ h => by
  obtain ⟨t, rfl⟩ := Rep.str_inv r₁; obtain ⟨u, rfl⟩ := Rep.str_inv r₂; exact SB.notContains (h _ (.refl _))⟩

inductive RepVs (w : World) (h : Heap) (reg : Fl → Addr → Prop) : List Value → List (Vl × Fl) → Prop where
  | nil : RepVs w h reg [] []
  | cons {v : Value} {vs : List Value} {x : Vl} {fl : Fl} {xs : List (Vl × Fl)} : RepV w (reg fl) h v x → RepVs w h reg vs xs → RepVs w h reg (v :: vs) ((x, fl) :: xs)
structure EvA (T : St) (n : Nat) (env : Env) (Γ : Gm) (es : List PySem.Expr) (xs : List (Vl × Fl)) : Prop where
  run : ∀ {A : Around} {reg : Fl → Addr → Prop} {s : Shared} {E : Value → Shared → Prop} {Q : List Value → Shared → Prop} {pos : Pos}, Amb n A → Rd T env reg Γ s →
    (∀ vals s', Kp T.N s s' → RepVs T.w s'.heap reg vals xs → Q vals s') → wpAny T.M A (spliced (backTo pos (starEach es env))) Q E s
  plain : ∀ pos, (backTo pos (starEach es env)).any (·.1) = false
theorem EvA.nil : EvA T n env Γ [] [] := ⟨fun hA R h => spliced_nil (h _ _ (.refl _) .nil), fun _ => rfl⟩
theorem EvA.cons {e : PySem.Expr} {es : List PySem.Expr} {v : Vl} {fl : Fl} {xs : List (Vl × Fl)} (x : Ev T n env Γ e v fl) (y : EvA T n env Γ es xs) (hs : starEach (e :: es) env = (false, eval e env) :: starEach es env) :
    EvA T n env Γ (e :: es) ((v, fl) :: xs) := by
  refine ⟨fun {A reg s E Q pos} hA R h => ?_, fun pos => ?_⟩
  · rw [hs]
    show wpAny T.M A (spliced ((false, eval e env) :: backTo pos (starEach es env))) Q E s
    exact spliced_cons (x.run hA R fun val s₁ k₁ r₁ => y.run hA (R.kp k₁) fun vals s₂ k₂ r₂ => h _ _ (k₁.trans k₂) (.cons (r₁.keeps k₂.h) r₂))
  · rw [hs]
    show (false || (backTo pos (starEach es env)).any (·.1)) = false
    rw [y.plain]; rfl
theorem evalArgs_any {M : Model} {A : Around} {E : Value → Shared → Prop} {s : Shared} {f : Value} {trees : List (Bool × Sem Value)} {Q : Args → Shared → Prop} (hp : trees.any (·.1) = false)
    (h : wpAny M A (spliced trees) (fun vs s' => Q ⟨vs, []⟩ s') E s) : wpAny M A (evalArgs f true trees []) Q E s := by
  cases trees with
  | nil =>
    unfold evalArgs
    show wpAny M A (spliced [] >>= _) Q E s
    refine wpAny_bind (wpAny_mono h (fun vs s' h' => ?_) fun _ _ x => x)
    refine wpAny_holding ?_
    exact wpAny_bind (wpAny_pure (wpAny_bind (wpAny_pure (wpAny_pure h'))))
  | cons t r =>
    obtain ⟨b, t⟩ := t
    cases b with
    | true => simp at hp
    | false => exact evalArgs_plain h
end
end Mine
end
section
open PySem PySem.Calls PyProof.Rows
set_option linter.all false
namespace Mine
variable {N : Nat}

def clampTo (n : Nat) (dflt : Nat) : Option Int → Nat
  | none => dflt
  | some i => if i < 0 then (i + n).toNat else min i.toNat n
def pyCut {α : Type} (lo hi : Option Int) (l : List α) : List α := (l.drop (clampTo l.length 0 lo)).take (clampTo l.length l.length hi - clampTo l.length 0 lo)

theorem clip_eq (i : Int) (n : Nat) : max 0 (min (if i < 0 then i + (n : Int) else i) (n : Int)) = ((clampTo n 0 (some i) : Nat) : Int) := by
  show _ = (((if i < 0 then (i + n).toNat else min i.toNat n) : Nat) : Int)
  by_cases h : i < 0
  · rw [if_pos h, if_pos h, Int.toNat_eq_max, Int.min_eq_left (by omega), Int.max_comm]
  · rw [if_neg h, if_neg h, show ((min i.toNat n : Nat) : Int) = min (i.toNat : Int) (n : Int) from by omega, Int.toNat_of_nonneg (by omega), Int.max_eq_right (by omega)]
theorem sliceBounds_eq (lo hi : Option Int) (n : Nat) : sliceBounds lo hi none n = (((clampTo n 0 lo : Nat) : Int), ((clampTo n n hi : Nat) : Int), (1 : Int)) := by
  have h := fun i => clip_eq i n
  cases lo with
  | none => cases hi with
    | none => rfl
    | some j => exact congrArg (fun x => ((0 : Int), x, (1 : Int))) (h j)
  | some i => cases hi with
    | none => exact congrArg (fun x => (x, (n : Int), (1 : Int))) (h i)
    | some j => exact congr (congrArg (fun x y => (x, y, (1 : Int))) (h i)) (h j)
end Mine
namespace Mine
variable {N : Nat}
theorem slicePick_cut (vs : List Value) (lo hi : Option Int) : slicePick (List.toArray vs) lo hi none = (pyCut lo hi vs).toArray := by
  unfold slicePick
  rw [sliceBounds_eq]
  simp only [sliceRange_one, pick_run, List.size_toArray]
  rfl
theorem strIdx_eq (lo hi : Option Int) (n : Nat) : Builtin.Str.strSliceIndices lo hi 1 n = (List.range (clampTo n n hi - clampTo n 0 lo)).map (clampTo n 0 lo + ·) := by
  have e := sliceBounds_eq lo hi n
  rw [← sliceRange_one]
  unfold sliceBounds at e
  unfold Builtin.Str.strSliceIndices
  simp only [Option.getD_none, show (1 : Int) > 0 by decide, if_true, Prod.mk.injEq, and_true] at e ⊢
  obtain ⟨e1, e2⟩ := e
  rw [← e1, ← e2]
  cases lo <;> cases hi <;> rfl
theorem pyCut_whole {α : Type} (lo hi : Option Int) (l : List α) (h : (pyCut lo hi l).length = l.length) : pyCut lo hi l = l := by
  unfold pyCut at h ⊢
  generalize clampTo l.length 0 lo = a at h ⊢
  generalize clampTo l.length l.length hi = b at h ⊢
  simp only [List.length_take, List.length_drop] at h
  by_cases hl : l.length = 0
  · have : l = [] := List.eq_nil_of_length_eq_zero hl
    subst this; simp
  · have ha : a = 0 := by omega
    subst ha
    simp only [List.drop_zero, Nat.sub_zero] at h ⊢
    exact List.take_of_length_le (by omega)
theorem slice_cut (x : Str) (lo hi : Option Int) : Txt.slice x lo hi = ⟨(pyCut lo hi x.cps.toList).toArray⟩ := by
  unfold Txt.slice
  rw [strIdx_eq]
  have hp : (((List.range (clampTo x.length x.length hi - clampTo x.length 0 lo)).map (clampTo x.length 0 lo + ·)).filterMap (x.cps[·]?)) = pyCut lo hi x.cps.toList := by
    rw [pick_run]; rfl
  rw [hp]
  split
  · rename_i h
    simp only [beq_self_eq_true, Bool.true_and, beq_iff_eq, List.length_map, List.length_range] at h
    have hw : pyCut lo hi x.cps.toList = x.cps.toList := by
      refine pyCut_whole _ _ _ ?_
      unfold pyCut
      simp only [List.length_take, List.length_drop, Array.length_toList]
      have : x.length = x.cps.size := rfl
      rw [← this]
      have h3 : clampTo x.length 0 lo ≤ x.length := by unfold clampTo; split <;> (try split) <;> omega
      have h4 : clampTo x.length x.length hi ≤ x.length := by unfold clampTo; split <;> (try split) <;> omega
      omega
    rw [hw]
  · rfl

theorem seqIndex_nat {i : Int} {k : Nat} (h0 : 0 ≤ i) (hk : i.toNat < k) : seqIndex? i k = some i.toNat := by
  unfold seqIndex?
  have h1 : ¬ i < 0 := by omega
  have h2 : i < (k : Int) := by omega
  simp [h1, h0, h2]

section
variable {T : St} {n : Nat} {env : Env} {Γ : Gm}

structure CallB (T : St) (n : Nat) (fv : Value) (xs : List (Vl × Fl)) (d : PyData) : Prop where
  run : ∀ {A : Around} {reg : Fl → Addr → Prop} {s : Shared} {E : Value → Shared → Prop} {Q : Value → Shared → Prop} {vals : List Value}, Amb n A → Regs reg s.heap → Wd T s.heap → RepVs T.w s.heap reg vals xs →
    (∀ val s', Kp T.N s s' → RepF T.w (reg .c) s.heap s'.heap val d → Q val s') → wpAny T.M A (call fv vals) Q E s
def Machine (fv : Value) : Prop := (∃ id, fv = .builtin id) ∨ ∃ t, fv = .type t
theorem callWith_machine {M : Model} {A : Around} {E : Value → Shared → Prop} {s : Shared} {pos : Pos} {fv : Value} {first : List Value} {args : List (Bool × Sem Value)} {Q : Value → Shared → Prop} (hf : Machine fv) (hplain : args.any (·.1) = false)
    (h : wpAny M A (evalArgs fv true args []) (fun a s₁ => wpAny M A (call fv (first ++ a.pos) a.kw) Q E s₁) E s) : wpAny M A (callWith pos fv first args []) Q E s := by
  rcases hf with ⟨id, rfl⟩ | ⟨t, rfl⟩
  · exact callWith_builtin hplain h
  · exact PyProof.Rows.callWith_type hplain h
theorem ld_builtin {A : Around} {E : Value → Shared → Prop} {reg : Fl → Addr → Prop} {s : Shared} {x : Str} {pos : Pos} {v : Value} {Q : Value → Shared → Prop} (R : Rd T env reg Γ s) (hx : env.kindOf x = some .globalImplicit) (hd : (x == ("__debug__" : Str)) = false) (hg : T.mg x = none) (hb : T.mb x = some v)
    (h : Q v s) : wpAny T.M A (eval (.Name x pos) env) Q E s :=
  Name_function_global R.eok.kind hx (loadGlobal_builtin (by rw [R.eok.g]; exact R.wd.g) hg (by rw [R.eok.b]; exact R.wd.b) hb h) hd
theorem ld_global {A : Around} {E : Value → Shared → Prop} {reg : Fl → Addr → Prop} {s : Shared} {x : Str} {pos : Pos} {v : Value} {Q : Value → Shared → Prop} (R : Rd T env reg Γ s) (hx : env.kindOf x = some .globalImplicit) (hd : (x == ("__debug__" : Str)) = false) (hg : T.mg x = some v)
    (h : Q v s) : wpAny T.M A (eval (.Name x pos) env) Q E s :=
  Name_function_global R.eok.kind hx (loadGlobal_global (by rw [R.eok.g]; exact R.wd.g) hg h) hd
theorem EvF.callB {f : Str} {p pos : Pos} {args : List PySem.Expr} {xs : List (Vl × Fl)} {fv : Value} {d : PyData} (hx : env.kindOf f = some .globalImplicit) (hd : (f == ("__debug__" : Str)) = false) (hg : T.mg f = none) (hb : T.mb f = some fv) (hf : Machine fv)
    (ha : EvA T n env Γ args xs) (hc : CallB T n fv xs d) : EvF T n env Γ (.Call (.Name f p) args [] pos) d := ⟨fun {A reg s E Q} hA R h =>
  Call_Name rfl (ld_builtin R hx hd hg hb (callWith_machine hf (ha.plain pos) (evalArgs_any (ha.plain pos) (ha.run hA R fun vals s₁ k₁ r₁ => hc.run hA (R.regs.kp k₁.h) (R.wd.kp k₁.h) r₁ fun val s₂ k₂ r₂ => h val s₂ (k₁.trans k₂) (r₂.older k₁.h)))))⟩

inductive RepAs (w : World) (h : Heap) : List Value → List Vl → Prop where
  | nil : RepAs w h [] []
  | cons {v : Value} {vs : List Value} {x : Vl} {xs : List Vl} : RepV w (fun _ => True) h v x → RepAs w h vs xs → RepAs w h (v :: vs) (x :: xs)
theorem RepVs.any {w : World} {h : Heap} {reg : Fl → Addr → Prop} {vs : List Value} {xs : List (Vl × Fl)} (r : RepVs w h reg vs xs) : RepAs w h vs (xs.map (·.1)) := by
  induction r with
  | nil => exact .nil
  | cons a _ ih => exact .cons (a.mono fun _ _ => trivial) ih
structure Calls (T : St) (n : Nat) (f : Addr) (xs : List Vl) (d : PyData) : Prop where
  run : ∀ {A : Around} {s : Shared} {E : Value → Shared → Prop} {Q : Value → Shared → Prop} {vals : List Value} (D : Addr → Prop), Amb n A → Wd T s.heap → (∀ a, D a → s.heap.get? a ≠ none) → RepAs T.w s.heap vals xs →
    (∀ val s', Kp T.N s s' → RepF T.w (fun a => ¬ D a) s.heap s'.heap val d → Q val s') → wpAny T.M A (call (.ref f) vals) Q E s
theorem Calls.le {f : Addr} {xs : List Vl} {d : PyData} {m : Nat} (x : Calls T m f xs d) (h : m ≤ n) : Calls T n f xs d := ⟨fun D hA => x.run D (hA.le h)⟩
def FnAt (T : St) (a : Addr) (fd : FuncData) : Prop := ∃ o, T.K.lookup a = some o ∧ o.data = .func fd
theorem EvF.call {f : Str} {p pos : Pos} {args : List PySem.Expr} {xs : List (Vl × Fl)} {a : Addr} {fd : FuncData} {d : PyData} (hx : env.kindOf f = some .globalImplicit) (hd : (f == ("__debug__" : Str)) = false) (hg : T.mg f = some (.ref a)) (hf : FnAt T a fd)
    (ha : EvA T n env Γ args xs) (hc : Calls T n a (xs.map (·.1)) d) : EvF T n env Γ (.Call (.Name f p) args [] pos) d := ⟨fun {A reg s E Q} hA R h => by
  obtain ⟨o, ho, hdat⟩ := hf
  refine Call_Name rfl (ld_global R hx hd hg (callWith_function (o := o) (fd := fd) (evalArgs_any (ha.plain pos) (ha.run hA R fun vals s₁ k₁ r₁ => ⟨⟨(R.wd.kp k₁.h).k a o ho, hdat⟩, ?_⟩))))
  refine hc.run (fun b => ¬ reg .c b) hA (R.wd.kp k₁.h) (fun b hb e => hb ((R.regs.kp k₁.h).fresh .c b e)) r₁.any fun val s₂ k₂ r₂ => h val s₂ (k₁.trans k₂) ((r₂.older k₁.h).mono fun b hb => Classical.byContradiction hb)⟩

structure Meth (T : St) (n : Nat) (name : Str) (v : Vl) (fl : Fl) (xs : List (Vl × Fl)) (d : PyData) : Prop where
  run : ∀ {A : Around} {reg : Fl → Addr → Prop} {s : Shared} {E : Value → Shared → Prop} {Q : Value → Shared → Prop} {ov : Value}, Amb n A → RepV T.w (reg fl) s.heap ov v →
    ∃ Ty id, PlainAttrs Ty ∧ PySem.Slot Ty name id ∧ typeOf (.builtin id) = pure (.type "method_descriptor") ∧ s.TypeIs ov Ty ∧ (∀ a, ov = .ref a → ∃ ob, s.heap.get? a = some ob ∧ ob.dict = none) ∧
      ∀ s₁ vals, Kp T.N s s₁ → Regs reg s₁.heap → Wd T s₁.heap → RepVs T.w s₁.heap reg vals xs → (∀ val s', Kp T.N s₁ s' → RepF T.w (reg .c) s₁.heap s'.heap val d → Q val s') → wpAny T.M A (call (.builtin id) (ov :: vals)) Q E s₁
theorem EvF.meth {o : PySem.Expr} {name : Str} {apos pos : Pos} {args : List PySem.Expr} {v : Vl} {fl : Fl} {xs : List (Vl × Fl)} {d : PyData} (ho : Ev T n env Γ o v fl) (ha : EvA T n env Γ args xs) (hm : Meth T n name v fl xs d)
    (hbase : attributeBase o name env (eval o env) = eval o env) (hfew : decide (args.length < 30) = true) (hline : (apos.endLine == pos.line) = true) : EvF T n env Γ (.Call (.Attribute o name apos) args [] pos) d := ⟨fun {A reg s E Q} hA R h => by
  refine wpAny_Call_method_lateS hbase ?_ hline (ho.run hA R fun ov s₁ k₁ r₁ => ?_)
  · have h1 : (backTo pos (starEach args env)).all (fun x => !x.1) = true := by
      have := ha.plain pos
      rw [List.any_eq_false] at this
      rw [List.all_eq_true]
      intro x hx
      have := this x hx
      simpa using this
    rw [h1]
    show (true && true && decide (args.length + 0 + 0 < 30)) = true
    simpa using hfew
  · obtain ⟨Ty, id, h1, h2, h3, h4, h5, h6⟩ := hm.run (E := E) (Q := Q) hA r₁
    refine ⟨Ty, id, h1, h2, h3, h4, h5, callWith_machine (.inl ⟨id, rfl⟩) (ha.plain pos) (evalArgs_any (ha.plain pos) (ha.run hA (R.kp k₁) fun vals s₂ k₂ r₂ => ?_))⟩
    exact h6 s₂ vals k₂ ((R.regs.kp k₁.h).kp k₂.h) ((R.wd.kp k₁.h).kp k₂.h) r₂ fun val s₃ k₃ r₃ => h val s₃ ((k₁.trans k₂).trans k₃) (r₃.older (k₁.trans k₂).h)⟩

structure Sub (T : St) (n : Nat) (v : Vl) (fl : Fl) (iv : Vl) (d : PyData) (fl' : Fl) : Prop where
  run : ∀ {A : Around} {reg : Fl → Addr → Prop} {R₂ : Addr → Prop} {s : Shared} {E : Value → Shared → Prop} {Q : Value → Shared → Prop} {ov ival : Value}, Amb n A → Regs reg s.heap → RepV T.w (reg fl) s.heap ov v → RepV T.w R₂ s.heap ival iv →
    (∀ val s', Kp T.N s s' → Rep T.w (reg fl') s'.heap val d → Q val s') → ∃ Ty id, typeLookup (.type Ty) "__getitem__" = pure (some (.builtin id)) ∧ s.TypeIs ov Ty ∧ wpAny T.M A (getItem ov ival) Q E s
theorem Ev.sub {e i : PySem.Expr} {pos : Pos} {v iv : Vl} {fl f₂ fl' : Fl} {d : PyData} (h₁ : Ev T n env Γ e v fl) (h₂ : Ev T n env Γ i iv f₂) (hs : Sub T n v fl iv d fl') (hp : ∀ o i', subscripted i false o i' = operate [o, i'] (getItem o i')) :
    Ev T n env Γ (.Subscript e i pos) (.d d) fl' := ⟨fun {A reg s E Q} hA R h =>
  Subscript_ (h₁.run hA R fun ov s₁ k₁ r₁ => h₂.run hA (R.kp k₁) fun ival s₂ k₂ r₂ => by
    obtain ⟨Ty, id, hl, hT, hg⟩ := hs.run (E := E) (Q := Q) hA ((R.regs.kp k₁.h).kp k₂.h) (r₁.keeps k₂.h) r₂ fun val s₃ k₃ r₃ => h val s₃ ((k₁.trans k₂).trans k₃) r₃
    exact tail_any hT hl hg (hp _ _))⟩
theorem Sub.str {fl : Fl} {x : Str} {i : Int} {c : Nat} (h0 : 0 ≤ i) (hc : x.cps.toList[i.toNat]? = some c) (hz : x.length ≤ sizeLine) : Sub T n (.d (.str x)) fl (.d (.int i)) (.str ⟨#[c]⟩) .c := ⟨fun {A reg R₂ s E Q ov ival} hA _ r₁ r₂ h => by
  obtain ⟨t, rfl⟩ := Rep.str_inv r₁; obtain ⟨u, rfl⟩ := Rep.int_inv r₂
  have hlt : i.toNat < x.cps.size := by have := (List.getElem?_eq_some_iff.mp hc).1; simpa using this
  have hx : x.cps.size ≤ 2 ^ 24 := hz
  have hch : Txt.charAt x i = some c := by
    unfold Txt.charAt
    have : seqIndex? i x.length = some i.toNat := seqIndex_nat h0 hlt
    rw [this]; simpa using hc
  refine ⟨"str", _, F.slot_str_getitem.lookup, typeIs_str _ _ _, SB.getItem ?_ (by rw [hch]; rfl) (h _ _ (.tok _ _) ?_)⟩
  · unfold fitsSsize
    simp only [Bool.not_eq_true', Bool.or_eq_false_iff, decide_eq_false_iff_not]
    omega
  · have : Txt.item x i = ⟨#[c]⟩ := by unfold Txt.item; rw [hch]; rfl
    rw [this]; exact rep_str ..⟩
theorem Sub.list {fl : Fl} {xs : List PyData} {i : Int} {d : PyData} (h0 : 0 ≤ i) (hi : i < 2 ^ 63) (hd : xs[i.toNat]? = some d) : Sub T n (.d (.list xs)) fl (.d (.int i)) d fl := ⟨fun {A reg R₂ s E Q ov ival} hA _ r₁ r₂ h => by
  obtain ⟨a, vs, rfl, hR, hl, hall⟩ := Rep.list_inv r₁; obtain ⟨u, rfl⟩ := Rep.int_inv r₂
  obtain ⟨v, hv, hr⟩ := hall.get _ d hd
  exact ⟨"list", _, slot_list_getitem.lookup, hl.typeIs, wpAny_getItem_list hl h0 hi (by simpa using hv) (h _ _ (.refl _) hr)⟩⟩
theorem Sub.tuple {fl : Fl} {xs : List PyData} {i : Int} {d : PyData} (h0 : 0 ≤ i) (hi : i < 2 ^ 63) (hd : xs[i.toNat]? = some d) : Sub T n (.d (.tuple xs)) fl (.d (.int i)) d fl := ⟨fun {A reg R₂ s E Q ov ival} hA _ r₁ r₂ h => by
  obtain ⟨a, o, vs, k, rfl, ho, hc, hdat, hall⟩ := Rep.tuple_inv r₁; obtain ⟨u, rfl⟩ := Rep.int_inv r₂
  obtain ⟨v, hv, hr⟩ := hall.get _ d hd
  have ht : IsTup s.heap a vs.toArray := ⟨o, ho, hc, k, hdat⟩
  have hlt : i.toNat < vs.length := (List.getElem?_eq_some_iff.mp hv).1
  have : seqIndex? i vs.toArray.size = some i.toNat := seqIndex_nat h0 (by simpa using hlt)
  exact ⟨"tuple", _, slot_tuple_getitem.lookup, ht.typeIs, getItem_tuple ht (by omega) hi this (by simpa using hv) (h _ _ (.refl _) hr)⟩⟩

theorem RepVs.all_c {w : World} {h : Heap} {reg : Fl → Addr → Prop} : ∀ {vs : List Value} {ds : List PyData}, RepVs w h reg vs (ds.map fun d => (Vl.d d, Fl.c)) → RepAll w (reg .c) h vs ds
  | _, [], .nil => RepAll.nil
  | _, _ :: _, .cons a r => RepAll.cons a r.all_c
theorem EvF.list {es : List PySem.Expr} {pos : Pos} {ds : List PyData} (ha : EvA T n env Γ es (ds.map fun d => (.d d, .c))) (hz : ds.length ≤ sizeLine) : EvF T n env Γ (.List es pos) (.list ds) := ⟨fun {A reg s E Q} hA R h =>
  List_ (ha.run hA R fun vals s₁ k₁ r₁ => by
    have hall := r₁.all_c
    refine wpAny_newObj_type (h _ _ (k₁.trans (.push _ _)) ((repF_listP (fun b => (R.regs.kp k₁.h).fresh .c b) hall).older k₁.h)) (by show vals.toArray.size ≤ sizeLine; rw [List.size_toArray, hall.length]; exact hz))⟩
theorem EvF.tuple {es : List PySem.Expr} {k : Nat} {pos : Pos} {ds : List PyData} (ha : EvA T n env Γ es (ds.map fun d => (.d d, .c))) (hz : ds.length ≤ sizeLine) : EvF T n env Γ (.Tuple es k pos) (.tuple ds) := ⟨fun {A reg s E Q} hA R h =>
  Tuple_ (ha.run hA R fun vals s₁ k₁ r₁ => by
    have hall := r₁.all_c
    refine wpAny_newObj_type (h _ _ (k₁.trans (.push _ _)) (.tuple (rep_tuple (n := 0) (Heap.get?_push_size _ rfl) rfl rfl (hall.keeps (N := 0) ((KpH.refl _).push _))))) (by show vals.toArray.size ≤ sizeLine; rw [List.size_toArray, hall.length]; exact hz))⟩
end
end Mine
end
section
open PySem PySem.Calls PyProof.Rows
set_option linter.all false
namespace Mine
variable {N : Nat}

def ChgH (N : Nat) (X : Addr → Prop) (h h' : Heap) : Prop := ∀ b o, h.get? b = some o → ¬ X b → ∃ sl, h'.get? b = some { o with slots := sl } ∧ ((o.cls ≠ .type "frame" ∨ b < N ∨ ∃ vs, o.data = .fields vs) → sl = o.slots)
theorem ChgH.of_kp {X : Addr → Prop} {h h' : Heap} (k : KpH N h h') : ChgH N X h h' := fun b o e _ => k b o e
theorem ChgH.trans {X Y : Addr → Prop} {h₁ h₂ h₃ : Heap} (x : ChgH N X h₁ h₂) (y : ChgH N Y h₂ h₃) (hxy : ∀ b o, h₁.get? b = some o → Y b → X b) : ChgH N X h₁ h₃ := fun b o e hb => by
  obtain ⟨sl, e1, f1⟩ := x b o e hb
  obtain ⟨sl', e2, f2⟩ := y b _ e1 fun hy => hb (hxy b o e hy)
  exact ⟨sl', e2, fun hc => (f2 hc).trans (f1 hc)⟩
theorem ChgH.of_but {z : Addr} {h h' : Heap} (k : Heap.SameBut z h h') : ChgH N (· = z) h h' := fun b o e hb => ⟨o.slots, (k.2 b hb).trans e, fun _ => rfl⟩
theorem ChgH.mono {X Y : Addr → Prop} {h h' : Heap} (x : ChgH N X h h') (hXY : ∀ b, X b → Y b) : ChgH N Y h h' := fun b o e hb => x b o e fun hx => hb (hXY b hx)
theorem ChgH.gets {X : Addr → Prop} {h h' : Heap} (x : ChgH N X h h') {b : Addr} {o : Obj} (e : h.get? b = some o) (hb : ¬ X b) : ∃ o', h'.get? b = some o' ∧ o'.cls = o.cls ∧ o'.dict = o.dict ∧ o'.data = o.data := by
  obtain ⟨sl, e1, _⟩ := x b o e hb
  exact ⟨_, e1, rfl, rfl, rfl⟩

def NotTup (h : Heap) (z : Addr) : Prop := ∀ o vs n, h.get? z = some o → o.cls = .type "tuple" → o.data ≠ .seq vs n
mutual
theorem reads_chg {X : Addr → Prop} {h h' : Heap} (hk : ChgH N X h h') (hX : ∀ z, X z → NotTup h z) : ∀ {v : Value} {d : PyData} {as : List Addr}, Reads h v d as → (∀ a ∈ as, ¬ X a) → Reads h' v d as
  | _, _, _, .none, _ => .none
  | _, _, _, .bool b, _ => .bool b
  | _, _, _, .int i t, _ => .int i t
  | _, _, _, .str x t, _ => .str x t
  | _, _, _, .list ho hc hd ha, hn => by obtain ⟨sl, e, _⟩ := hk _ _ ho (hn _ (.head _)); exact .list e hc hd (readsAll_chg hk hX ha fun a ha' => hn a (.tail _ ha'))
  | _, _, _, .tuple ho hc hd ha, hn => by obtain ⟨sl, e, _⟩ := hk _ _ ho (fun hx => hX _ hx _ _ _ ho hc hd); exact .tuple e hc hd (readsAll_chg hk hX ha hn)
  | _, _, _, .dict ho hc hd ha hb, hn => by
    obtain ⟨sl, e, _⟩ := hk _ _ ho (hn _ (by simp))
    exact .dict e hc hd (readsAll_chg hk hX ha fun a h' => hn a (by simp [h'])) (readsAll_chg hk hX hb fun a h' => hn a (by simp [h']))
theorem readsAll_chg {X : Addr → Prop} {h h' : Heap} (hk : ChgH N X h h') (hX : ∀ z, X z → NotTup h z) : ∀ {vs : List Value} {ds : List PyData} {as : List Addr}, ReadsAll h vs ds as → (∀ a ∈ as, ¬ X a) → ReadsAll h' vs ds as
  | _, _, _, .nil, _ => .nil
  | _, _, _, .cons h1 h2, hn => .cons (reads_chg hk hX h1 fun a ha => hn a (by simp [ha])) (readsAll_chg hk hX h2 fun a ha => hn a (by simp [ha]))
end
section
variable {w : World} {R : Addr → Prop} {X : Addr → Prop} {h h' : Heap} {v : Value}
theorem Dok.chg {as : List Addr} (x : Dok w h as) (hk : ChgH N X h h') (hn : ∀ a ∈ as, ¬ X a) : Dok w h' as := fun a ha => by
  obtain ⟨o, ho, r⟩ := x a ha
  obtain ⟨sl, e, f⟩ := hk a o ho (hn a ha)
  refine ⟨_, e, fun es n q => ?_⟩
  obtain ⟨r1, r2, r3⟩ := r es n q
  exact ⟨r1, ⟨r2.1, r2.2.1, (f (.inl (by rw [r2.1]; simp))).trans r2.2.2⟩, r3⟩
theorem Rep.chg {d : PyData} (x : Rep w R h v d) (hk : ChgH N X h h') (hX : ∀ z, X z → NotTup h z) (hR : ∀ a, R a → ¬ X a) : Rep w R h' v d :=
  let ⟨as, r, hr, hd⟩ := x; ⟨as, reads_chg hk hX r fun a ha => hR a (hr a ha), hr, hd.chg hk fun a ha => hR a (hr a ha)⟩
theorem FieldsRep.chg (hk : ChgH N X h h') (hX : ∀ z, X z → NotTup h z) (hR : ∀ a, R a → ¬ X a) : ∀ {es : List DictEntry} {fs : List (Str × PyData)}, FieldsRep w R h es fs → FieldsRep w R h' es fs
  | [], [], _ => trivial
  | _ :: _, (_, _) :: _, ⟨a, b, c, r⟩ => ⟨a, b, c.chg hk hX hR, FieldsRep.chg hk hX hR r⟩
theorem ChgH.plain (hk : ChgH N X h h') {b : Addr} {o : Obj} (e : h.get? b = some o) (hb : ¬ X b) (hc : o.cls ≠ .type "frame") : h'.get? b = some o := by
  obtain ⟨sl, e1, f1⟩ := hk b o e hb
  rw [e1, f1 (.inl hc)]
theorem RepV.chg {x : Vl} (r : RepV w R h v x) (hk : ChgH N X h h') (hX : ∀ z, X z → NotTup h z) (hR : ∀ a, R a → ¬ X a) : RepV w R h' v x := by
  cases x with
  | d x => exact Rep.chg r hk hX hR
  | i C fs =>
    obtain ⟨x, dx, es, n, a1, a2, a3, a4, a5, a6⟩ := r
    exact ⟨x, dx, es, n, a1, a2, a3, hk.plain a4 (hR _ a2) (by simp), hk.plain a5 (hR _ a3) (by simp), a6.chg hk hX hR⟩
theorem Rep.there {d : PyData} (x : Rep w R h v d) : Rep w (fun a => R a ∧ h.get? a ≠ none) h v d :=
  let ⟨as, r, hr, hd⟩ := x; ⟨as, r, fun a ha => ⟨hr a ha, by obtain ⟨o, e, _⟩ := hd a ha; rw [e]; simp⟩, hd⟩
theorem FieldsRep.there : ∀ {es : List DictEntry} {fs : List (Str × PyData)}, FieldsRep w R h es fs → FieldsRep w (fun a => R a ∧ h.get? a ≠ none) h es fs
  | [], [], _ => trivial
  | _ :: _, (_, _) :: _, ⟨a, b, c, r⟩ => ⟨a, b, c.there, r.there⟩
theorem RepV.there {x : Vl} (r : RepV w R h v x) : RepV w (fun a => R a ∧ h.get? a ≠ none) h v x := by
  cases x with
  | d x => exact Rep.there r
  | i C fs =>
    obtain ⟨x, dx, es, n, a1, a2, a3, a4, a5, a6⟩ := r
    exact ⟨x, dx, es, n, a1, ⟨a2, by rw [a4]; simp⟩, ⟨a3, by rw [a5]; simp⟩, a4, a5, a6.there⟩
end

structure Frm (N : Nat) (s₀ : Shared) (env : Env) (m cm : Str → Option Value) (s : Shared) : Prop where
  same : ∃ h tk, s = { s₀ with heap := h, toks := tk }
  keep : KpH N s₀.heap s.heap
  ns : s.heap.Ns env.locals m
  cell : ∀ x c, env.cells.lookup x = some c → s.heap.IsCell c (cm x)
  newL : s₀.heap.get? env.locals = none
  newC : ∀ x c, env.cells.lookup x = some c → s₀.heap.get? c = none ∧ c ≠ env.locals
  apart : env.cells.Pairwise fun x y => x.2 ≠ y.2
theorem Frm.kp {s₀ s s' : Shared} {env : Env} {m cm : Str → Option Value} (x : Frm N s₀ env m cm s) (k : Kp N s s') : Frm N s₀ env m cm s' := by
  refine ⟨?_, x.keep.trans k.h, k.h.ns x.ns, fun y c hc => k.h.cell (x.cell y c hc), x.newL, x.newC, x.apart⟩
  obtain ⟨h, tk, rfl⟩ := x.same
  obtain ⟨h', tk', rfl, _⟩ := k
  exact ⟨h', tk', rfl⟩

def Look (env : Env) (m cm : Str → Option Value) (x : Str) (v : Value) : Prop :=
  (env.kindOf x = some .local ∧ m x = some v) ∨ (env.kindOf x = some .cell ∧ (∃ c, env.cells.lookup x = some c) ∧ cm x = some v)
theorem Look.is {s₀ s : Shared} {env : Env} {m cm : Str → Option Value} {x : Str} {v : Value} (l : Look env m cm x v) (F : Frm N s₀ env m cm s) : NameIs env s.heap x v := by
  rcases l with ⟨k, e⟩ | ⟨k, ⟨c, hc⟩, e⟩
  · exact .inl ⟨k, m, F.ns, e⟩
  · exact .inr ⟨k, c, hc, e ▸ F.cell x c hc⟩

abbrev Own := Str → Option Addr
def regOf (d₀ : Addr → Prop) (env : Env) (own : Own) : Fl → Addr → Prop
  | .o, _ => True
  | .s _, _ => True
  | .b, a => a ≠ env.locals ∧ (∀ y c, env.cells.lookup y = some c → a ≠ c) ∧ ∀ y, own y ≠ some a
  | .c, a => ¬ d₀ a ∧ a ≠ env.locals ∧ (∀ y c, env.cells.lookup y = some c → a ≠ c) ∧ ∀ y, own y ≠ some a

def gN : Str := "."
def FldO (T : St) (d₀ : Addr → Prop) (env : Env) (own : Own) (h : Heap) (o : Option Str) : List DictEntry → List (Str × PyData) → Prop
  | [], [] => True
  | e :: es, (x, d) :: fs => ((∃ t, e.key = .str x t) ∧ e.hash = PyData.keyHash T.w.params x) ∧ ((o ≠ some x ∧ Rep T.w (regOf d₀ env own .c) h e.val d) ∨ (o = some x ∧ env.kindOf gN = none ∧ ∃ pd as, e.val = .ref pd ∧ own gN = some pd ∧ Reads h e.val d (pd :: as) ∧ (∀ b ∈ as, regOf d₀ env own .c b) ∧ Dok T.w h (pd :: as))) ∧ FldO T d₀ env own h o es fs
  | _, _ => False
section
variable {T : St} {d₀ : Addr → Prop} {env : Env} {own own' : Own} {X : Addr → Prop} {h h' : Heap} {o : Option Str}
theorem FldO.chg (hk : ChgH N X h h') (hX : ∀ z, X z → NotTup h z) (hF : ∀ v d as, Reads h v d as → Dok T.w h as → (∀ b ∈ as, regOf d₀ env own .c b ∨ (env.kindOf gN = none ∧ own gN = some b)) → ∀ b ∈ as, ¬ X b)
    (hR : ∀ b, regOf d₀ env own .c b → h.get? b ≠ none → regOf d₀ env own' .c b) (hG : ∀ b, env.kindOf gN = none → own gN = some b → own' gN = some b) :
    ∀ {es : List DictEntry} {fs : List (Str × PyData)}, FldO T d₀ env own h o es fs → FldO T d₀ env own' h' o es fs
  | [], [], _ => trivial
  | e :: es, (x, d) :: fs, ⟨h1, h2, h3⟩ => by
    refine ⟨h1, ?_, FldO.chg hk hX hF hR hG h3⟩
    rcases h2 with ⟨q, as, r, hr, hd⟩ | ⟨q, q', pd, as, e1, e2, r, hr, hd⟩
    · have hn := hF _ _ _ r hd fun b hb => .inl (hr b hb)
      exact .inl ⟨q, as, reads_chg hk hX r hn, fun b hb => hR b (hr b hb) (by obtain ⟨o, e, _⟩ := hd b hb; rw [e]; simp), hd.chg hk hn⟩
    · have hn := hF _ _ _ r hd fun b hb => (List.mem_cons.mp hb).elim (fun e => .inr ⟨q', e ▸ e2⟩) fun hb => .inl (hr b hb)
      exact .inr ⟨q, q', pd, as, e1, hG pd q' e2, reads_chg hk hX r hn, fun b hb => hR b (hr b hb) (by obtain ⟨o, e, _⟩ := hd b (.tail _ hb); rw [e]; simp), hd.chg hk hn⟩
theorem FldO.rep {R : Addr → Prop} (hR : ∀ b, regOf d₀ env own .c b → R b) (hG : ∀ b, own gN = some b → R b) : ∀ {es : List DictEntry} {fs : List (Str × PyData)}, FldO T d₀ env own h o es fs → FieldsRep T.w R h es fs
  | [], [], _ => trivial
  | e :: es, (x, d) :: fs, ⟨h1, h2, h3⟩ => by
    refine ⟨h1.1, h1.2, ?_, FldO.rep hR hG h3⟩
    rcases h2 with ⟨q, r⟩ | ⟨q, q', pd, as, e1, e2, r, hr, hd⟩
    · exact r.mono hR
    · exact ⟨_, r, fun b hb => (List.mem_cons.mp hb).elim (fun e => hG b (e ▸ e2)) fun hb => hR b (hr b hb), hd⟩
end
def InstOwn (T : St) (d₀ : Addr → Prop) (env : Env) (own : Own) (h : Heap) (x : Str) (val : Value) (v : Vl) (p : Addr × Option Str) : Prop :=
  ∃ C fs dx es n, v = .i C fs ∧ val = .ref p.1 ∧ own x = some dx ∧ regOf d₀ env own .c p.1 ∧ h.get? p.1 = some { cls := .ref C, dict := some dx } ∧
    h.get? dx = some { cls := .type "dict", data := .dict (List.toArray es) n } ∧ FldO T d₀ env own h p.2 es fs
theorem InstOwn.chg {T : St} {d₀ : Addr → Prop} {env : Env} {own own' : Own} {X : Addr → Prop} {h h' : Heap} {x : Str} {val : Value} {v : Vl} {p : Addr × Option Str} (r : InstOwn T d₀ env own h x val v p) (hk : ChgH N X h h') (hX : ∀ z, X z → NotTup h z)
    (hR : ∀ b, regOf d₀ env own .c b → h.get? b ≠ none → regOf d₀ env own' .c b ∧ ¬ X b) (hO : ∀ y b, own y = some b → (y = x ∨ env.kindOf y = none) → own' y = some b ∧ ¬ X b) : InstOwn T d₀ env own' h' x val v p := by
  obtain ⟨C, fs, dx, es, n, e1, e2, e3, e4, e5, e6, e7⟩ := r
  have h1 := hR p.1 e4 (by rw [e5]; simp)
  have h2 := hO x dx e3 (.inl rfl)
  refine ⟨C, fs, dx, es, n, e1, e2, h2.1, h1.1, hk.plain e5 h1.2 (by simp), hk.plain e6 h2.2 (by simp), ?_⟩
  refine e7.chg hk hX (fun v d as _ hd hr b hb => ?_) (fun b hb hn => (hR b hb hn).1) fun b hg hb => (hO gN b hb (.inr hg)).1
  rcases hr b hb with q | ⟨hg, q⟩
  · exact (hR b q (by obtain ⟨o, e, _⟩ := hd b hb; rw [e]; simp)).2
  · exact (hO gN b q (.inr hg)).2
theorem InstOwn.rep {T : St} {d₀ : Addr → Prop} {env : Env} {own : Own} {h : Heap} {x : Str} {val : Value} {v : Vl} {p : Addr × Option Str} (r : InstOwn T d₀ env own h x val v p) : RepV T.w (fun _ => True) h val v := by
  obtain ⟨C, fs, dx, es, n, e1, e2, e3, e4, e5, e6, e7⟩ := r
  subst e1
  exact ⟨p.1, dx, es, n, e2, trivial, trivial, e5, e6, e7.rep (fun _ _ => trivial) fun _ _ => trivial⟩
def SlotRep (T : St) (d₀ : Addr → Prop) (env : Env) (own : Own) (h : Heap) (x : Str) (val : Value) (v : Vl) : Fl → Prop
  | .o => ∃ d a as, v = .d d ∧ val = .ref a ∧ own x = some a ∧ Reads h val d (a :: as) ∧ (∀ b ∈ as, regOf d₀ env own .c b) ∧ Dok T.w h (a :: as)
  | .s a => InstOwn T d₀ env own h x val v a
  | .b => RepV T.w (regOf d₀ env own .b) h val v
  | .c => RepV T.w (regOf d₀ env own .c) h val v

structure CellsOk' (env : Env) : Prop where
  has : ∀ x, env.kindOf x = some .cell → ∃ c, env.cells.lookup x = some c

structure SI (T : St) (s₀ : Shared) (d₀ : Addr → Prop) (env : Env) (own : Own) (Γ : Gm) (s : Shared) : Prop where
  eok : EnvOk env
  cok : CellsOk' env
  ok : GmOk (Γ.map (·.1))
  wd0 : Wd T s₀.heap
  d0 : ∀ a, d₀ a → s₀.heap.get? a ≠ none
  ownNew : ∀ x a, own x = some a → s₀.heap.get? a = none ∧ a ≠ env.locals ∧ (∀ y c, env.cells.lookup y = some c → a ≠ c) ∧ ∃ o, s.heap.get? a = some o ∧ (o.dict = none ∧ ∀ vs, o.data ≠ .fields vs) ∧ o.cls ≠ .type "tuple" ∧ o.cls ≠ .type "frame"
  ownInj : ∀ x y a, own x = some a → own y = some a → x = y
  frm : ∃ m cm, Frm T.N s₀ env m cm s ∧ ∀ x v fl, (x, some (v, fl)) ∈ Γ → ∃ val, Look env m cm x val ∧ SlotRep T d₀ env own s.heap x val v fl

section
variable {T : St} {s₀ s s' : Shared} {d₀ : Addr → Prop} {env : Env} {own : Own} {Γ : Gm}
theorem SlotRep.kp {h h' : Heap} {x : Str} {val : Value} {v : Vl} : ∀ {fl : Fl}, SlotRep T d₀ env own h x val v fl → KpH N h h' → SlotRep T d₀ env own h' x val v fl
  | .o, ⟨d, a, as, e1, e2, e3, e4, e5, e6⟩, k => ⟨d, a, as, e1, e2, e3, reads_kp k e4, e5, e6.keeps k⟩
  | .s _, r, k => InstOwn.chg (X := fun _ => False) r (.of_kp k) (fun _ q => q.elim) (fun b hb _ => ⟨hb, id⟩) (fun y b hb _ => ⟨hb, id⟩)
  | .b, r, k => RepV.keeps r k
  | .c, r, k => RepV.keeps r k
theorem SI.kp (S : SI T s₀ d₀ env own Γ s) (k : Kp T.N s s') : SI T s₀ d₀ env own Γ s' := by
  refine ⟨S.eok, S.cok, S.ok, S.wd0, S.d0, fun x a e => ?_, S.ownInj, ?_⟩
  · obtain ⟨h1, h2, h3, o, h4, h5, h6, h7⟩ := S.ownNew x a e
    exact ⟨h1, h2, h3, o, k.h.get h4 h7, h5, h6, h7⟩
  · obtain ⟨m, cm, F, hn⟩ := S.frm
    exact ⟨m, cm, F.kp k, fun x v fl hm => let ⟨val, l, r⟩ := hn x v fl hm; ⟨val, l, r.kp k.h⟩⟩
theorem SI.wd (S : SI T s₀ d₀ env own Γ s) : Wd T s.heap := by obtain ⟨m, cm, F, _⟩ := S.frm; exact S.wd0.kp F.keep
theorem SI.fresh (S : SI T s₀ d₀ env own Γ s) {a : Addr} (e : s.heap.get? a = none) : regOf d₀ env own .c a := by
  obtain ⟨m, cm, F, _⟩ := S.frm
  refine ⟨fun hd => S.d0 a hd (F.keep.none e), fun q => ?_, fun y c hc q => ?_, fun y q => ?_⟩
  · obtain ⟨o, _, _, ho, _⟩ := F.ns; rw [← q, e] at ho; cases ho
  · obtain ⟨o, ho, _⟩ := F.cell y c hc; rw [← q, e] at ho; cases ho
  · obtain ⟨_, _, _, o, ho, _⟩ := S.ownNew y a q; rw [e] at ho; cases ho
theorem regOf_cb {a : Addr} (h : regOf d₀ env own .c a) : regOf d₀ env own .b a := h.2
theorem SI.rd (S : SI T s₀ d₀ env own Γ s) : Rd T env (regOf d₀ env own) Γ s := by
  refine ⟨S.eok, S.ok, fun x v fl hm => ?_, ⟨fun fl a e => ?_, fun a h => regOf_cb h, fun a _ => trivial, fun _ a _ => trivial⟩, S.wd⟩
  · obtain ⟨m, cm, F, hn⟩ := S.frm
    obtain ⟨val, l, r⟩ := hn x v fl hm
    refine ⟨val, l.is F, ?_⟩
    cases fl with
    | c => exact r
    | b => exact r
    | o =>
      obtain ⟨d, a, as, rfl, rfl, _, e4, _, e6⟩ := r
      exact ⟨_, e4, fun _ _ => trivial, e6⟩
    | s _ => exact InstOwn.rep r
  · have := S.fresh e
    cases fl
    · exact this
    · exact regOf_cb this
    · trivial
    · trivial

def May (env : Env) (own : Own) (b : Addr) : Prop := b = env.locals ∨ (∃ y, env.cells.lookup y = some b) ∨ ∃ y, own y = some b
def Pres (N : Nat) (env : Env) (own : Own) (s s' : Shared) : Prop := (∃ h tk, s' = { s with heap := h, toks := tk }) ∧ ChgH N (May env own) s.heap s'.heap ∧ ∀ b, s'.heap.get? b = none → s.heap.get? b = none
def OwnLe (own own' : Own) (s : Shared) : Prop := ∀ y a, own' y = some a → (∃ x, own x = some a) ∨ s.heap.get? a = none
theorem OwnLe.refl (own : Own) (s : Shared) : OwnLe own own s := fun y _ e => .inl ⟨y, e⟩
theorem Pres.of_kp (k : Kp N s s') : Pres N env own s s' := by
  have hn := k.h
  obtain ⟨h', tk, rfl, hk⟩ := k
  exact ⟨⟨h', tk, rfl⟩, .of_kp hk, fun b e => hk.none e⟩
theorem Pres.trans {own' : Own} {s'' : Shared} (x : Pres N env own s s') (o : OwnLe own own' s) (y : Pres N env own' s' s'') : Pres N env own s s'' := by
  refine ⟨?_, x.2.1.trans y.2.1 fun b ob e hb => ?_, fun b e => x.2.2 b (y.2.2 b e)⟩
  · obtain ⟨⟨h, tk, rfl⟩, _⟩ := x
    obtain ⟨⟨h', tk', rfl⟩, _⟩ := y
    exact ⟨h', tk', rfl⟩
  · rcases hb with q | q | ⟨y, q⟩
    · exact .inl q
    · exact .inr (.inl q)
    · rcases o y b q with ⟨z, hz⟩ | hz
      · exact .inr (.inr ⟨z, hz⟩)
      · rw [e] at hz; cases hz
theorem OwnLe.trans {own' own'' : Own} (x : OwnLe own own' s) (y : OwnLe own' own'' s') (p : Pres N env own s s') : OwnLe own own'' s := fun z a e => by
  rcases y z a e with ⟨q, hq⟩ | hq
  · exact x q a hq
  · exact .inr (p.2.2 a hq)
theorem May.notTup (S : SI T s₀ d₀ env own Γ s) : ∀ z, May env own z → NotTup s.heap z := fun z hz o vs n e hc hd => by
  obtain ⟨m, cm, F, _⟩ := S.frm
  rcases hz with rfl | ⟨y, q⟩ | ⟨y, q⟩
  · obtain ⟨o', _, _, ho, hd', _⟩ := F.ns
    rw [ho] at e; cases e; rw [hd'] at hd; cases hd
  · obtain ⟨o', ho, hd'⟩ := F.cell y z q
    rw [ho] at e; cases e; rw [hd'] at hd; cases hd
  · obtain ⟨_, _, _, o', ho, _, h6, _⟩ := S.ownNew y z q
    rw [ho] at e; cases e; exact h6 hc
theorem regOf_not_may {a : Addr} (h : regOf d₀ env own .b a) : ¬ May env own a := by
  rintro (q | ⟨y, q⟩ | ⟨y, q⟩)
  · exact h.1 q
  · exact h.2.1 y a q rfl
  · exact h.2.2 y q
end

theorem store_wp {T : St} {A : Around} {E : Value → Shared → Prop} {Q : Unit → Shared → Prop} {s₀ s : Shared} {env : Env} {m cm : Str → Option Value} {x : Str} {val : Value} (F : Frm N s₀ env m cm s) (eok : EnvOk env) (cok : CellsOk' env) (hk : env.kindOf x = some .local ∨ env.kindOf x = some .cell)
    (h : ∀ s' m' cm', Frm N s₀ env m' cm' s' → Look env m' cm' x val → (∀ y v, y ≠ x → Look env m cm y v → Look env m' cm' y v) → (∃ h tk, s' = { s with heap := h, toks := tk }) →
      ChgH N (fun b => b = env.locals ∨ ∃ y, env.cells.lookup y = some b) s.heap s'.heap → (∀ b, s'.heap.get? b = none → s.heap.get? b = none) → Q () s') : wpAny T.M A (storeName env x val) Q E s := by
  rcases hk with hl | hl
  · refine wpAny_storeName_local hl F.ns (fun h' hn hs => h _ _ cm ⟨?_, fun b o e => ?_, hn, fun y c hc => ?_, F.newL, F.newC, F.apart⟩ (.inl ⟨hl, by simp⟩) (fun y v hy hv => ?_) ⟨_, _, rfl⟩ ?_ fun b e => ?_) (by rw [eok.kind]; rfl)
    · obtain ⟨h₁, tk, rfl⟩ := F.same; exact ⟨_, _, rfl⟩
    · obtain ⟨sl, e1, f1⟩ := F.keep b o e
      exact ⟨sl, (hs.2 b fun q => by rw [q, F.newL] at e; cases e).trans e1, f1⟩
    · exact (F.cell y c hc).sameBut hs (F.newC y c hc).2
    · rcases hv with ⟨a, b⟩ | r
      · exact .inl ⟨a, by simp [hy, b]⟩
      · exact .inr r
    · exact (ChgH.of_but hs).mono fun b hb => .inl hb
    · by_cases hb : b = env.locals
      · obtain ⟨o, _, _, ho, _⟩ := hn; subst hb; rw [ho] at e; cases e
      · exact (hs.2 b hb).symm.trans e
  · obtain ⟨c, hc⟩ := cok.has x hl
    refine wpAny_storeName_cell eok.kind hl hc (F.cell x c hc) fun h' hc' hs => h _ m (fun y => if y = x then some val else cm y) ⟨?_, fun b o e => ?_, F.ns.sameBut hs (Ne.symm (F.newC x c hc).2), fun y c' hy => ?_, F.newL, F.newC, F.apart⟩ (.inr ⟨hl, ⟨c, hc⟩, by simp⟩) (fun y v hy hv => ?_) ⟨_, _, rfl⟩ ?_ fun b e => ?_
    · obtain ⟨h₁, tk, rfl⟩ := F.same; exact ⟨_, _, rfl⟩
    · obtain ⟨sl, e1, f1⟩ := F.keep b o e
      exact ⟨sl, (hs.2 b fun q => by rw [q, (F.newC x c hc).1] at e; cases e).trans e1, f1⟩
    · by_cases hyx : y = x
      · subst hyx
        rw [hc] at hy; cases hy
        simpa using hc'
      · simp only [hyx, if_false]
        exact (F.cell y c' hy).sameBut hs fun e => hyx (name_of_addr F.apart (mem_of_lookup hy) (e ▸ mem_of_lookup hc))
    · rcases hv with r | ⟨a, b, d⟩
      · exact .inl r
      · exact .inr ⟨a, b, by simp [hy, d]⟩
    · exact (ChgH.of_but hs).mono fun b hb => .inr ⟨x, hb ▸ hc⟩
    · by_cases hb : b = c
      · obtain ⟨o, ho, _⟩ := hc'; subst hb; rw [ho] at e; cases e
      · exact (hs.2 b hb).symm.trans e

inductive Put : Gm → Str → Slot → Gm → Prop where
  | here {x : Str} {u sl : Slot} {Γ : Gm} : Put ((x, u) :: Γ) x sl ((x, sl) :: Γ)
  | there {x y : Str} {u sl : Slot} {Γ Γ' : Gm} : Put Γ x sl Γ' → Put ((y, u) :: Γ) x sl ((y, u) :: Γ')
theorem Put.names {Γ Γ' : Gm} {x : Str} {sl : Slot} (p : Put Γ x sl Γ') : Γ'.map (·.1) = Γ.map (·.1) := by
  induction p with
  | here => rfl
  | there _ ih => simp [ih]
theorem Put.mem {Γ Γ' : Gm} {x : Str} {sl : Slot} (p : Put Γ x sl Γ') : x ∈ Γ.map (·.1) := by
  induction p with
  | here => simp
  | there _ ih => simp [ih]
theorem Put.cases {Γ Γ' : Gm} {x : Str} {sl : Slot} (p : Put Γ x sl Γ') (hn : (Γ.map (·.1)).Nodup) : ∀ y t, (y, t) ∈ Γ' → (y = x ∧ t = sl) ∨ (y ≠ x ∧ (y, t) ∈ Γ) := by
  induction p with
  | @here x u sl Γ =>
    intro y t hm
    rcases List.mem_cons.mp hm with e | hm'
    · cases e; exact .inl ⟨rfl, rfl⟩
    · refine .inr ⟨fun e => ?_, .tail _ hm'⟩
      simp only [List.map_cons, List.nodup_cons] at hn
      exact hn.1 (e ▸ List.mem_map_of_mem (f := fun p : Str × Slot => p.1) hm')
  | @there x z u sl Γ Γ' p ih =>
    intro y t hm
    simp only [List.map_cons, List.nodup_cons] at hn
    rcases List.mem_cons.mp hm with e | hm
    · cases e
      exact .inr ⟨fun e => hn.1 (e ▸ p.mem), .head _⟩
    · rcases ih hn.2 y t hm with r | ⟨r, q⟩
      · exact .inl r
      · exact .inr ⟨r, .tail _ q⟩

section
variable {T : St} {s₀ s s₁ : Shared} {d₀ : Addr → Prop} {env : Env} {own own' : Own} {Γ Γ' : Gm}
theorem regOf_le (hle : ∀ a, (∀ y, own y ≠ some a) → ∀ y, own' y ≠ some a) : ∀ (fl : Fl) (a : Addr), regOf d₀ env own fl a → regOf d₀ env own' fl a
  | .o, _, _ => trivial
  | .s _, _, _ => trivial
  | .b, a, h => ⟨h.1, h.2.1, hle a h.2.2⟩
  | .c, a, h => ⟨h.1, h.2.1, h.2.2.1, hle a h.2.2.2⟩
theorem SI.storeG {A : Around} {E : Value → Shared → Prop} {Q : Unit → Shared → Prop} {x : Str} {val : Value} {sl : Slot} (S : SI T s₀ d₀ env own Γ s) (k : Kp T.N s s₁) (hp : Put Γ x sl Γ') (hk : env.kindOf x = some .local ∨ env.kindOf x = some .cell)
    (ho : ∀ y, y ≠ x → own' y = own y) (hnew : ∀ a, own' x = some a → s.heap.get? a = none ∧ ∃ o, s₁.heap.get? a = some o ∧ (o.dict = none ∧ ∀ vs, o.data ≠ .fields vs) ∧ o.cls ≠ .type "tuple" ∧ o.cls ≠ .type "frame")
    (hsl : ∀ v fl, sl = some (v, fl) → SlotRep T d₀ env own' s₁.heap x val v fl)
    (h : ∀ s', SI T s₀ d₀ env own' Γ' s' → Pres T.N env own s s' → OwnLe own own' s → ChgH T.N (fun b => b = env.locals ∨ ∃ y, env.cells.lookup y = some b) s.heap s'.heap → Q () s') : wpAny T.M A (storeName env x val) Q E s₁ := by
  have S₁ := S.kp k
  obtain ⟨m, cm, F, hnm⟩ := S.frm
  refine store_wp (F.kp k) S.eok S.cok hk fun s' m' cm' F' hlx hly hsame hchg halive => ?_
  have hle : ∀ a, s.heap.get? a ≠ none → (∀ y, own y ≠ some a) → ∀ y, own' y ≠ some a := fun a ha hy y q => by
    by_cases hyx : y = x
    · subst hyx; exact ha (hnew a q).1
    · rw [ho y hyx] at q; exact hy y q
  have chg : ChgH T.N (fun b => b = env.locals ∨ ∃ y, env.cells.lookup y = some b) s.heap s'.heap := (ChgH.of_kp k.h).trans hchg fun _ _ _ hb => hb
  have ntup : ∀ z, (z = env.locals ∨ ∃ y, env.cells.lookup y = some z) → NotTup s₁.heap z := fun z hz => May.notTup S₁ z (hz.elim .inl fun q => .inr (.inl q))
  have regUp : ∀ (fl : Fl) (a : Addr), (regOf d₀ env own fl a ∧ s.heap.get? a ≠ none) → regOf d₀ env own' fl a
    | .o, _, _ => trivial
    | .s _, _, _ => trivial
    | .b, a, r => ⟨r.1.1, r.1.2.1, hle a r.2 r.1.2.2⟩
    | .c, a, r => ⟨r.1.1, r.1.2.1, r.1.2.2.1, hle a r.2 r.1.2.2.2⟩
  have notX : ∀ (fl : Fl), fl ≠ .o → (∀ x, fl ≠ .s x) → ∀ a, regOf d₀ env own' fl a → ¬ (a = env.locals ∨ ∃ y, env.cells.lookup y = some a) := fun fl hfl hfs a hr => by
    cases fl with
    | o => exact absurd rfl hfl
    | s x => exact absurd rfl (hfs x)
    | b => rintro (q | ⟨y, q⟩); exact hr.1 q; exact hr.2.1 y a q rfl
    | c => rintro (q | ⟨y, q⟩); exact hr.2.1 q; exact hr.2.2.1 y a q rfl
  have owned : ∀ z a, own' z = some a → a ≠ env.locals ∧ (∀ y c, env.cells.lookup y = some c → a ≠ c) ∧ s₀.heap.get? a = none ∧ ∃ o, s₁.heap.get? a = some o ∧ (o.dict = none ∧ ∀ vs, o.data ≠ .fields vs) ∧ o.cls ≠ .type "tuple" ∧ o.cls ≠ .type "frame" := fun z a q => by
    by_cases hz : z = x
    · subst hz
      obtain ⟨e1, e2⟩ := hnew a q
      have := S.fresh e1
      exact ⟨this.2.1, this.2.2.1, F.keep.none e1, e2⟩
    · rw [ho z hz] at q
      obtain ⟨h1, h2, h3, h4⟩ := S₁.ownNew z a q
      exact ⟨h2, h3, h1, h4⟩
  refine h s' ⟨S.eok, S.cok, by rw [hp.names]; exact S.ok, S.wd0, S.d0, fun z a q => ?_, fun z y a q r => ?_, m', cm', F', fun y v fl hm => ?_⟩ ⟨?_, ?_, fun b e => k.h.none (halive b e)⟩ (fun y a q => ?_) chg
  · obtain ⟨h1, h2, h3, o, h4, h5, h6, h7⟩ := owned z a q
    exact ⟨h3, h1, h2, o, hchg.plain h4 (fun hx => hx.elim (fun e => h1 e) fun ⟨y, e⟩ => h2 y a e rfl) h7, h5, h6, h7⟩
  · by_cases hz : z = x <;> by_cases hy : y = x
    · rw [hz, hy]
    · subst hz
      rw [ho y hy] at r
      obtain ⟨_, _, _, o, h4, _⟩ := S.ownNew y a r
      rw [(hnew a q).1] at h4; cases h4
    · subst hy
      rw [ho z hz] at q
      obtain ⟨_, _, _, o, h4, _⟩ := S.ownNew z a q
      rw [(hnew a r).1] at h4; cases h4
    · rw [ho z hz] at q; rw [ho y hy] at r; exact S.ownInj z y a q r
  · rcases hp.cases S.ok.nodup y _ hm with ⟨rfl, e⟩ | ⟨hyx, hm⟩
    · refine ⟨val, hlx, ?_⟩
      have r := hsl v fl e.symm
      cases fl with
      | c => exact RepV.chg r hchg ntup (notX .c (by simp) (by simp))
      | b => exact RepV.chg r hchg ntup (notX .b (by simp) (by simp))
      | o =>
        obtain ⟨d, a, as, e1, e2, e3, e4, e5, e6⟩ := r
        have hna : ∀ b ∈ a :: as, ¬ (b = env.locals ∨ ∃ y, env.cells.lookup y = some b) := fun b hb => by
          rcases List.mem_cons.mp hb with rfl | hb
          · have := owned _ b e3
            rintro (q | ⟨y, q⟩); exact this.1 q; exact this.2.1 y b q rfl
          · exact notX .c (by simp) (by simp) b (e5 b hb)
        exact ⟨d, a, as, e1, e2, e3, reads_chg hchg ntup e4 hna, e5, e6.chg hchg hna⟩
      | s _ => exact InstOwn.chg r hchg ntup (fun b hb _ => ⟨hb, notX .c (by simp) (by simp) b hb⟩) (fun y b q _ => ⟨q, by have := owned y b q; rintro (e | ⟨z, e⟩); exact this.1 e; exact this.2.1 z b e rfl⟩)
    · obtain ⟨val', l, r⟩ := hnm y v fl hm
      refine ⟨val', hly y val' hyx l, ?_⟩
      cases fl with
      | c => exact RepV.chg (((RepV.there r).mono (regUp .c)).keeps k.h) hchg ntup (notX .c (by simp) (by simp))
      | b => exact RepV.chg (((RepV.there r).mono (regUp .b)).keeps k.h) hchg ntup (notX .b (by simp) (by simp))
      | o =>
        obtain ⟨d, a, as, e1, e2, e3, e4, e5, e6⟩ := r
        have e5' : ∀ b ∈ as, regOf d₀ env own' .c b := fun b hb => regUp .c b ⟨e5 b hb, by obtain ⟨o, e, _⟩ := e6 b (.tail _ hb); rw [e]; simp⟩
        have hna : ∀ b ∈ a :: as, ¬ (b = env.locals ∨ ∃ y, env.cells.lookup y = some b) := fun b hb => by
          rcases List.mem_cons.mp hb with rfl | hb
          · have := owned y b (by rw [ho y hyx]; exact e3)
            rintro (q | ⟨y, q⟩); exact this.1 q; exact this.2.1 y b q rfl
          · exact notX .c (by simp) (by simp) b (e5' b hb)
        exact ⟨d, a, as, e1, e2, by rw [ho y hyx]; exact e3, reads_chg hchg ntup (reads_kp k.h e4) hna, e5', (e6.keeps k.h).chg hchg hna⟩
      | s _ =>
        refine InstOwn.chg (own := own') (InstOwn.chg (own := own) (own' := own') (X := fun _ => False) r (.of_kp k.h) (fun _ q => q.elim) (fun b hb hn => ⟨regUp .c b ⟨hb, hn⟩, id⟩) (fun z b q hz => ⟨?_, id⟩)) hchg ntup (fun b hb _ => ⟨hb, notX .c (by simp) (by simp) b hb⟩) (fun z b q _ => ⟨q, by have := owned z b q; rintro (e | ⟨y, e⟩); exact this.1 e; exact this.2.1 y b e rfl⟩)
        rw [ho z ?_]; exact q
        rcases hz with rfl | hz
        · exact hyx
        · rintro rfl; rcases hk with hk | hk <;> rw [hk] at hz <;> cases hz
  · obtain ⟨h₁, tk, rfl⟩ := hsame
    obtain ⟨h₂, tk₂, rfl, _⟩ := k
    exact ⟨_, _, rfl⟩
  · exact chg.mono fun b hb => hb.elim .inl fun q => .inr (.inl q)
  · by_cases hyx : y = x
    · subst hyx; exact .inr (hnew a q).1
    · rw [ho y hyx] at q; exact .inl ⟨y, q⟩
theorem SI.store {A : Around} {E : Value → Shared → Prop} {Q : Unit → Shared → Prop} {x : Str} {val : Value} {sl : Slot} (S : SI T s₀ d₀ env own Γ s) (k : Kp T.N s s₁) (hp : Put Γ x sl Γ') (hk : env.kindOf x = some .local ∨ env.kindOf x = some .cell)
    (ho : ∀ y, y ≠ x → own' y = own y) (hnew : ∀ a, own' x = some a → s.heap.get? a = none ∧ ∃ o, s₁.heap.get? a = some o ∧ (o.dict = none ∧ ∀ vs, o.data ≠ .fields vs) ∧ o.cls ≠ .type "tuple" ∧ o.cls ≠ .type "frame")
    (hsl : ∀ v fl, sl = some (v, fl) → SlotRep T d₀ env own' s₁.heap x val v fl)
    (h : ∀ s', SI T s₀ d₀ env own' Γ' s' → Pres T.N env own s s' → OwnLe own own' s → Q () s') : wpAny T.M A (storeName env x val) Q E s₁ :=
  S.storeG k hp hk ho hnew hsl fun s' S' p o _ => h s' S' p o
end
end Mine
end
section
open PySem PySem.Calls PyProof.Rows
set_option linter.all false
namespace Mine
variable {N : Nat}

abbrev ExcK := Addr
inductive Fw where
  | next | brk | cont
  | ret (d : PyData)
  | exc (k : ExcK)

def ExcRep (T : St) (A : Around) (env : Env) (s₀ : Shared) (d₀ : Addr → Prop) (k : ExcK) (e : Value) (s : Shared) : Prop := False

def FlowRep (T : St) (s₀ : Shared) (d₀ : Addr → Prop) (s : Shared) : Flow → Fw → Prop
  | .next, .next => True
  | .brk, .brk => True
  | .cont, .cont => True
  | .ret v, .ret d => RepF T.w (fun a => ¬ d₀ a) s₀.heap s.heap v d
  | _, _ => False

structure Ex (T : St) (n : Nat) (env : Env) (Γ : Gm) (ss : List Stmt) (Q : Fw → Gm → Prop) : Prop where
  run : ∀ {A : Around} {s₀ : Shared} {d₀ : Addr → Prop} {own : Own} {s : Shared} {E : Value → Shared → Prop} {QQ : Flow → Shared → Prop}, Amb n A → SI T s₀ d₀ env own Γ s →
    (∀ f f' s' Γ' own', SI T s₀ d₀ env own' Γ' s' → Pres T.N env own s s' → OwnLe own own' s → FlowRep T s₀ d₀ s' f f' → Q f' Γ' → QQ f s') →
    (∀ k e s' Γ' own', SI T s₀ d₀ env own' Γ' s' → Pres T.N env own s s' → OwnLe own own' s → ExcRep T A env s₀ d₀ k e s' → Q (.exc k) Γ' → E e s') → wpAny T.M A (execs ss env) QQ E s
structure Ex1 (T : St) (n : Nat) (env : Env) (Γ : Gm) (st : Stmt) (Q : Fw → Gm → Prop) : Prop where
  run : ∀ {A : Around} {s₀ : Shared} {d₀ : Addr → Prop} {own : Own} {s : Shared} {E : Value → Shared → Prop} {QQ : Flow → Shared → Prop}, Amb n A → SI T s₀ d₀ env own Γ s →
    (∀ f f' s' Γ' own', SI T s₀ d₀ env own' Γ' s' → Pres T.N env own s s' → OwnLe own own' s → FlowRep T s₀ d₀ s' f f' → Q f' Γ' → QQ f s') →
    (∀ k e s' Γ' own', SI T s₀ d₀ env own' Γ' s' → Pres T.N env own s s' → OwnLe own own' s → ExcRep T A env s₀ d₀ k e s' → Q (.exc k) Γ' → E e s') → wpAny T.M A (exec st env) QQ E s

def Thn (T : St) (n : Nat) (env : Env) (rest : List Stmt) (Q : Fw → Gm → Prop) : Fw → Gm → Prop
  | .next, Γ => Ex T n env Γ rest Q
  | .brk, Γ => Q .brk Γ
  | .cont, Γ => Q .cont Γ
  | .ret d, Γ => Q (.ret d) Γ
  | .exc k, Γ => Q (.exc k) Γ

section
variable {T : St} {n : Nat} {env : Env} {Γ Γ' : Gm} {Q Q' : Fw → Gm → Prop}
theorem Ex.nil (h : Q .next Γ) : Ex T n env Γ [] Q := ⟨fun hA S hq _ => wpAny_execs_nil (hq _ .next _ _ _ S (.of_kp (.refl _)) (.refl _ _) trivial h)⟩
theorem Ex.cons {st : Stmt} {rest : List Stmt} (h : Ex1 T n env Γ st (Thn T n env rest Q)) : Ex T n env Γ (st :: rest) Q := ⟨fun {A s₀ d₀ own s E QQ} hA S hq hx => by
  refine wpAny_execs_cons (h.run hA S (fun f f' s' Γ' own' S' p o fr q => ?_) fun k e s' Γ' own' S' p o er q => hx k e s' Γ' own' S' p o er q)
  cases f' with
  | next =>
    cases f <;> first | exact fr.elim | skip
    exact Ex.run q hA S' (fun g g' s'' Γ'' own'' S'' p' o' fr' q' => hq g g' s'' Γ'' own'' S'' (p.trans o p') (o.trans o' p) fr' q') fun k e s'' Γ'' own'' S'' p' o' er q' => hx k e s'' Γ'' own'' S'' (p.trans o p') (o.trans o' p) er q'
  | brk => cases f <;> first | exact fr.elim | exact hq _ .brk s' Γ' own' S' p o fr q
  | cont => cases f <;> first | exact fr.elim | exact hq _ .cont s' Γ' own' S' p o fr q
  | ret d => cases f <;> first | exact fr.elim | exact hq _ (.ret d) s' Γ' own' S' p o fr q
  | exc k => cases f <;> exact fr.elim⟩
theorem Ex1.mono {st : Stmt} (h : Ex1 T n env Γ st Q) (hm : ∀ f Γ, Q f Γ → Q' f Γ) : Ex1 T n env Γ st Q' := ⟨fun hA S hq hx =>
  h.run hA S (fun f f' s' Γ' own' S' p o fr q => hq f f' s' Γ' own' S' p o fr (hm _ _ q)) fun k e s' Γ' own' S' p o er q => hx k e s' Γ' own' S' p o er (hm _ _ q)⟩

theorem Ex1.assign {x : Str} {p₁ p₂ : Pos} {e : PySem.Expr} {d : PyData} (he : EvF T n env Γ e d) (hp : Put Γ x (some (.d d, .c)) Γ') (hk : env.kindOf x = some .local ∨ env.kindOf x = some .cell)
    (hs : swapsWith e (some (.Name x p₁)) p₂.line env = pure false) (hq : Q .next Γ') : Ex1 T n env Γ (.Assign [.Name x p₁] e p₂) Q := ⟨fun {A s₀ d₀ own s E QQ} hA S h hx => by
  refine wpAny_Assign_Name (he.run hA S.rd fun val s₁ k₁ r₁ => ?_) hs
  refine S.store (own' := fun y => if y = x then none else own y) k₁ hp hk (fun y hy => by simp [hy]) (fun a e => by simp at e) (fun v fl e => ?_) fun s' S' p o => h _ .next s' Γ' _ S' p o trivial hq
  cases e
  refine RepV.mono (x := .d d) r₁.rep (regOf_le (fun a ha y => ?_) .c)
  by_cases hy : y = x
  · simp [hy]
  · simp [hy, ha y]⟩
theorem Ex1.assignV {x : Str} {p₁ p₂ : Pos} {e : PySem.Expr} {v : Vl} {fl : Fl} (he : Ev T n env Γ e v fl) (hfl : fl ≠ .o ∧ ∀ x, fl ≠ .s x) (hp : Put Γ x (some (v, fl)) Γ') (hk : env.kindOf x = some .local ∨ env.kindOf x = some .cell)
    (hs : swapsWith e (some (.Name x p₁)) p₂.line env = pure false) (hq : Q .next Γ') : Ex1 T n env Γ (.Assign [.Name x p₁] e p₂) Q := ⟨fun {A s₀ d₀ own s E QQ} hA S h hx => by
  refine wpAny_Assign_Name (he.run hA S.rd fun val s₁ k₁ r₁ => ?_) hs
  refine S.store (own' := fun y => if y = x then none else own y) k₁ hp hk (fun y hy => by simp [hy]) (fun a e => by simp at e) (fun v fl e => ?_) fun s' S' p o => h _ .next s' Γ' _ S' p o trivial hq
  cases e
  have := RepV.mono r₁ (regOf_le (d₀ := d₀) (env := env) (own := own) (own' := fun y => if y = x then none else own y) (fun a ha y => by by_cases hy : y = x <;> simp [hy, ha y]) fl)
  cases fl with
  | c => exact this
  | b => exact this
  | o => exact absurd rfl hfl.1
  | s x => exact absurd rfl (hfl.2 x)⟩
def isMut : PyData → Bool
  | .list _ | .dict _ => true
  | _ => false
theorem RepF.top {w : World} {R : Addr → Prop} {h h' : Heap} {v : Value} {d : PyData} (r : RepF w R h h' v d) (hm : isMut d = true) :
    ∃ a as, v = .ref a ∧ Reads h' v d (a :: as) ∧ (∀ b ∈ as, R b) ∧ Dok w h' (a :: as) ∧ h.get? a = none ∧ a ∉ as ∧ ∃ o, h'.get? a = some o ∧ (o.dict = none ∧ ∀ vs, o.data ≠ .fields vs) ∧ o.cls ≠ .type "tuple" ∧ o.cls ≠ .type "frame" := by
  obtain ⟨as, r1, r2, r3, r4⟩ := r
  cases d with
  | list xs =>
    obtain ⟨a, as', e1, e2, e3, e4, o, e5, e6⟩ := r4
    subst e1; subst e2
    refine ⟨a, as', rfl, r1, fun b hb => r2 b (.tail _ hb), r3, e3, e4, o, e5, ⟨e6, ?_⟩, ?_⟩ <;>
    cases r1 with
    | list ho hc hdat _ => rw [ho] at e5; cases e5; first | (rw [hc]; simp; done) | (rw [hdat]; simp)
  | dict kvs =>
    obtain ⟨a, as', e1, e2, e3, e4, o, e5, e6⟩ := r4
    subst e1; subst e2
    refine ⟨a, as', rfl, r1, fun b hb => r2 b (.tail _ hb), r3, e3, e4, o, e5, ⟨e6, ?_⟩, ?_⟩ <;>
    (generalize hc : a :: as' = cs at r1
     cases r1 with
     | dict ho hc' hdat _ _ => rw [ho] at e5; cases e5; first | (rw [hc']; simp; done) | (rw [hdat]; simp))
  | _ => simp [isMut] at hm
theorem Ex1.assignO {x : Str} {p₁ p₂ : Pos} {e : PySem.Expr} {d : PyData} (he : EvF T n env Γ e d) (hm : isMut d = true) (hp : Put Γ x (some (.d d, .o)) Γ') (hk : env.kindOf x = some .local ∨ env.kindOf x = some .cell)
    (hs : swapsWith e (some (.Name x p₁)) p₂.line env = pure false) (hq : Q .next Γ') : Ex1 T n env Γ (.Assign [.Name x p₁] e p₂) Q := ⟨fun {A s₀ d₀ own s E QQ} hA S h hx => by
  refine wpAny_Assign_Name (he.run hA S.rd fun val s₁ k₁ r₁ => ?_) hs
  obtain ⟨a, as, e1, e2, e3, e4, e5, e6, e7⟩ := r₁.top hm
  refine S.store (own' := fun y => if y = x then some a else own y) k₁ hp hk (fun y hy => by simp [hy]) (fun b e => by simp at e; subst e; exact ⟨e5, e7⟩) (fun v fl e => ?_) fun s' S' p o => h _ .next s' Γ' _ S' p o trivial hq
  cases e
  refine ⟨d, a, as, rfl, e1, by simp, e2, fun b hb => ?_, e4⟩
  have r := e3 b hb
  refine ⟨r.1, r.2.1, r.2.2.1, fun y q => ?_⟩
  by_cases hy : y = x
  · simp [hy] at q; subst q; exact e6 hb
  · simp [hy] at q; exact r.2.2.2 y q⟩

theorem Ex1.ret {p : Pos} {e : PySem.Expr} {d : PyData} (he : EvF T n env Γ e d) (hq : Q (.ret d) Γ) : Ex1 T n env Γ (.Return (some e) p) Q := ⟨fun {A s₀ d₀ own s E QQ} hA S h hx => by
  refine wpAny_Return_some (he.run hA S.rd fun val s₁ k₁ r₁ => h _ (.ret d) s₁ Γ own (S.kp k₁) (.of_kp k₁) (.refl _ _) ?_ hq)
  obtain ⟨m, cm, F, _⟩ := S.frm
  exact (r₁.older F.keep).mono fun a ha => ha.1⟩
theorem Ex1.retO {p p' : Pos} {x : Str} {d : PyData} (hm : (x, some (.d d, .o)) ∈ Γ) (hq : Q (.ret d) Γ) : Ex1 T n env Γ (.Return (some (.Name x p')) p) Q := ⟨fun {A s₀ d₀ own s E QQ} hA S h hx => by
  obtain ⟨m, cm, F, hn⟩ := S.frm
  obtain ⟨val, l, d', a, as, e1, e2, e3, e4, e5, e6⟩ := hn x _ _ hm
  cases e1
  have hd := S.ok.nodebug x (List.mem_map_of_mem (f := fun p : Str × Slot => p.1) hm)
  obtain ⟨h1, h2, h3, o, h4, h5, h6, h7⟩ := S.ownNew x a e3
  have fin : QQ (.ret val) s := h _ (.ret d) s Γ own S (.of_kp (.refl _)) (.refl _ _) (by
    refine ⟨a :: as, e4, fun b hb => ?_, e6, ?_⟩
    · rcases List.mem_cons.mp hb with rfl | hb
      · exact fun hd => S.d0 _ hd h1
      · exact (e5 b hb).1
    · have hna : a ∉ as := fun ha => (e5 a ha).2.2.2 x e3
      cases d <;> first | trivial | exact ⟨a, as, e2, rfl, h1, hna, o, h4, h5.1⟩) hq
  rcases (l.is F) with ⟨k, m', hn', hv⟩ | ⟨k, c, hc, hv⟩
  · exact wpAny_Return_some (wpAny_Name (wpAny_loadName_local S.eok.kind k hn' hv fin) hd)
  · exact wpAny_Return_some (wpAny_Name (wpAny_loadName_cell S.eok.kind k hc hv fin) hd)⟩
theorem Ex1.ite {test : PySem.Expr} {body orelse : List Stmt} {p : Pos} {b : Bool} (ht : IsT T n env Γ test b) (h₁ : b = true → Ex T n env Γ body Q) (h₂ : b = false → Ex T n env Γ orelse Q) : Ex1 T n env Γ (.If test body orelse p) Q := ⟨fun {A s₀ d₀ own s E QQ} hA S h hx => by
  refine wpAny_If (ht.run hA S.rd fun s₁ k₁ => ?_)
  have h' : ∀ f f' s' Γ' own', SI T s₀ d₀ env own' Γ' s' → Pres T.N env own s₁ s' → OwnLe own own' s₁ → FlowRep T s₀ d₀ s' f f' → Q f' Γ' → QQ f s' := fun f f' s' Γ' own' S' p o fr q =>
    h f f' s' Γ' own' S' ((Pres.of_kp k₁).trans (.refl _ _) p) ((OwnLe.refl own s).trans o (Pres.of_kp (env := env) k₁)) fr q
  have hx' : ∀ k e s' Γ' own', SI T s₀ d₀ env own' Γ' s' → Pres T.N env own s₁ s' → OwnLe own own' s₁ → ExcRep T A env s₀ d₀ k e s' → Q (.exc k) Γ' → E e s' := fun k e s' Γ' own' S' p o er q =>
    hx k e s' Γ' own' S' ((Pres.of_kp k₁).trans (.refl _ _) p) ((OwnLe.refl own s).trans o (Pres.of_kp (env := env) k₁)) er q
  cases b with
  | true => exact (h₁ rfl).run hA (S.kp k₁) h' hx'
  | false => exact (h₂ rfl).run hA (S.kp k₁) h' hx'⟩
theorem Ex1.cont {p : Pos} (hq : Q .cont Γ) : Ex1 T n env Γ (.Continue p) Q := ⟨fun hA S h hx => wpAny_bind (wpAny_standAt (wpAny_pure (h _ .cont _ _ _ S (.of_kp (.refl _)) (.refl _ _) trivial hq)))⟩
def Turn (I : Nat → Gm → Prop) (k : Nat) (Q : Fw → Gm → Prop) : Fw → Gm → Prop
  | .next, Γ => ∃ m, m < k ∧ I m Γ
  | .cont, Γ => ∃ m, m < k ∧ I m Γ
  | .brk, Γ => Q .next Γ
  | .ret d, Γ => Q (.ret d) Γ
  | .exc e, Γ => Q (.exc e) Γ
theorem Ex1.whil {test : PySem.Expr} {body : List Stmt} {p : Pos} (I : Nat → Gm → Prop) (k : Nat) (h0 : I k Γ)
    (hturn : ∀ k Γ, I k Γ → ∃ b, IsT T n env Γ test b ∧ (b = true → Ex T n env Γ body (Turn I k Q)) ∧ (b = false → Q .next Γ)) : Ex1 T n env Γ (.While test body [] p) Q := ⟨fun {A s₀ d₀ own s E QQ} hA S h hx => by
  refine wpAny_While (codeAny_whileLoop (fun k s' => ∃ Γ' own', SI T s₀ d₀ env own' Γ' s' ∧ Pres T.N env own s s' ∧ OwnLe own own' s ∧ I k Γ') (fun k s' ⟨Γ', own', S', p', o', hI⟩ => ?_) k ⟨Γ, own, S, .of_kp (.refl _), .refl _ _, h0⟩)
  obtain ⟨b, ht, hb1, hb2⟩ := hturn k Γ' hI
  refine ht.run hA S'.rd fun s₂ k₂ => ?_
  have S₂ := S'.kp k₂
  have p₂ : Pres T.N env own s s₂ := p'.trans o' (.of_kp k₂)
  have o₂ : OwnLe own own' s := o'
  cases b with
  | true =>
    refine (hb1 rfl).run hA S₂ (fun f f' s₃ Γ₃ own₃ S₃ p₃ o₃ fr q => ?_) fun k e s₃ Γ₃ own₃ S₃ p₃ o₃ er q => er.elim
    have p₄ := p₂.trans o₂ p₃
    have o₄ := o₂.trans o₃ p₂
    cases f' with
    | next => cases f <;> first | exact fr.elim | (obtain ⟨m, hm, hI'⟩ := q; exact ⟨m, hm, Γ₃, own₃, S₃, p₄, o₄, hI'⟩)
    | cont => cases f <;> first | exact fr.elim | (obtain ⟨m, hm, hI'⟩ := q; exact ⟨m, hm, Γ₃, own₃, S₃, p₄, o₄, hI'⟩)
    | brk => cases f <;> first | exact fr.elim | exact h _ .next s₃ Γ₃ own₃ S₃ p₄ o₄ trivial q
    | ret d => cases f <;> first | exact fr.elim | exact h _ (.ret d) s₃ Γ₃ own₃ S₃ p₄ o₄ fr q
    | exc e => cases f <;> exact fr.elim
  | false => exact wpAny_execs_nil (h _ .next s₂ Γ' own' S₂ p₂ o₂ trivial (hb2 rfl))⟩
end
end Mine
end
section
open PySem PySem.Calls PyProof.Rows PySem.W
set_option linter.all false
namespace Mine

structure Gd (T : St) : Prop where
  g : ∀ x r, nsIn T.K mainGlobals x = some r → T.mg x = r
  b : ∀ x : Str, x ≠ "__name__" → T.mb x = bootBuiltins x

def Fun (T : St) (n : Nat) (f : Str) (xs : List Vl) (d : PyData) : Prop := ∃ a fd, T.mg f = some (.ref a) ∧ FnAt T a fd ∧ Calls T n a xs d
theorem EvF.fn {T : St} {n m : Nat} {env : Env} {Γ : Gm} {f : Str} {p pos : Pos} {args : List PySem.Expr} {xs : List (Vl × Fl)} {d : PyData} (hx : env.kindOf f = some .globalImplicit) (hd : (f == ("__debug__" : Str)) = false)
    (ha : EvA T n env Γ args xs) (hc : Fun T m f (xs.map (·.1)) d) (hm : m ≤ n) : EvF T n env Γ (.Call (.Name f p) args [] pos) d :=
  let ⟨_, _, e1, e2, e3⟩ := hc; .call hx hd e1 e2 ha (e3.le hm)

def Binds (fd : FuncData) (ps : List Str) : Prop := ∀ vals : List Value, vals.length = ps.length → bindArgs fd ⟨vals, []⟩ = pure (ps.zip vals)
theorem Binds.of0 {fd : FuncData} (h : bindArgs fd ⟨[], []⟩ = pure []) : Binds fd [] := fun vals hv => by
  have : vals = [] := List.eq_nil_of_length_eq_zero hv
  subst this; exact h
theorem Binds.of1 {fd : FuncData} {p : Str} (h : ∀ v, bindArgs fd ⟨[v], []⟩ = pure [(p, v)]) : Binds fd [p] := fun vals hv => by
  match vals, hv with
  | [v], _ => exact h v
theorem Binds.of2 {fd : FuncData} {p q : Str} (h : ∀ v u, bindArgs fd ⟨[v, u], []⟩ = pure [(p, v), (q, u)]) : Binds fd [p, q] := fun vals hv => by
  match vals, hv with
  | [v, u], _ => exact h v u
theorem Binds.of3 {fd : FuncData} {p q r : Str} (h : ∀ v u t, bindArgs fd ⟨[v, u, t], []⟩ = pure [(p, v), (q, u), (r, t)]) : Binds fd [p, q, r] := fun vals hv => by
  match vals, hv with
  | [v, u, t], _ => exact h v u t
inductive Prm : List Str → List Vl → Gm → Prop where
  | nil : Prm [] [] []
  | c {p : Str} {ps : List Str} {d : PyData} {xs : List Vl} {Γ : Gm} : still d = true → Prm ps xs Γ → Prm (p :: ps) (.d d :: xs) ((p, some (.d d, .c)) :: Γ)
  | b {p : Str} {ps : List Str} {x : Vl} {xs : List Vl} {Γ : Gm} : Prm ps xs Γ → Prm (p :: ps) (x :: xs) ((p, some (x, .b)) :: Γ)
theorem Prm.length {ps : List Str} {xs : List Vl} {Γ : Gm} (h : Prm ps xs Γ) : xs.length = ps.length := by
  induction h with
  | nil => rfl
  | c _ _ ih => simp [ih]
  | b _ ih => simp [ih]
theorem RepAs.length {w : World} {h : Heap} {vs : List Value} {xs : List Vl} (r : RepAs w h vs xs) : vs.length = xs.length := by
  induction r with
  | nil => rfl
  | cons _ _ ih => simp [ih]
theorem Prm.names {ps : List Str} {xs : List Vl} {Γ : Gm} (h : Prm ps xs Γ) : Γ.map (·.1) = ps := by
  induction h with
  | nil => rfl
  | c _ _ ih => simp [ih]
  | b _ ih => simp [ih]
theorem Prm.get {ps : List Str} {xs : List Vl} {Γ : Gm} (h : Prm ps xs Γ) {w : World} {hp : Heap} : ∀ {vs : List Value}, RepAs w hp vs xs → ∀ x v fl, (x, some (v, fl)) ∈ Γ → ∃ val, (x, val) ∈ ps.zip vs ∧ RepV w (fun _ => True) hp val v ∧ (fl ≠ .o ∧ ∀ x, fl ≠ .s x) ∧ (fl = .c → ∃ d, v = .d d ∧ still d = true) := by
  induction h with
  | nil => intro vs _ x v fl hm; cases hm
  | c hs _ ih =>
    intro vs r x v fl hm
    cases r with
    | cons a r =>
      rcases List.mem_cons.mp hm with e | hm
      · cases e
        exact ⟨_, .head _, a, by simp, fun _ => ⟨_, rfl, hs⟩⟩
      · obtain ⟨val, h1, h2⟩ := ih r x v fl hm
        exact ⟨val, .tail _ h1, h2⟩
  | b _ ih =>
    intro vs r x v fl hm
    cases r with
    | cons a r =>
      rcases List.mem_cons.mp hm with e | hm
      · cases e
        exact ⟨_, .head _, a, by simp, fun q => by cases q⟩
      · obtain ⟨val, h1, h2⟩ := ih r x v fl hm
        exact ⟨val, .tail _ h1, h2⟩

theorem bindL_get {kd : Str → Option NameKind} : ∀ (binds : List (Str × Value)) (m : Str → Option Value) (x : Str) (v : Value), (binds.map (·.1)).Nodup → (x, v) ∈ binds → kd x = some .local → bindL kd binds m x = some v
  | (y, u) :: r, m, x, v, hn, hm, hk => by
    unfold bindL
    simp only [List.map_cons, List.nodup_cons] at hn
    rcases List.mem_cons.mp hm with e | hm
    · cases e
      rw [bindL_other r _ _ hn.1]
      simp [hk]
    · exact bindL_get r _ x v hn.2 hm hk
where
  bindL_other {kd : Str → Option NameKind} : ∀ (binds : List (Str × Value)) (m : Str → Option Value) (x : Str), x ∉ binds.map (·.1) → bindL kd binds m x = m x
    | [], _, _, _ => rfl
    | (y, u) :: r, m, x, hn => by
      unfold bindL
      simp only [List.map_cons, List.mem_cons, not_or] at hn
      rw [bindL_other r _ x hn.2]
      split <;> simp [hn.1]
theorem bindC_get {kd : Str → Option NameKind} : ∀ (binds : List (Str × Value)) (m : Str → Option Value) (x : Str) (v : Value), (binds.map (·.1)).Nodup → (x, v) ∈ binds → kd x ≠ some .local → bindC kd binds m x = some v
  | (y, u) :: r, m, x, v, hn, hm, hk => by
    unfold bindC
    simp only [List.map_cons, List.nodup_cons] at hn
    rcases List.mem_cons.mp hm with e | hm
    · cases e
      rw [bindC_other r _ _ hn.1]
      simp [hk]
    · exact bindC_get r _ x v hn.2 hm hk
where
  bindC_other {kd : Str → Option NameKind} : ∀ (binds : List (Str × Value)) (m : Str → Option Value) (x : Str), x ∉ binds.map (·.1) → bindC kd binds m x = m x
    | [], _, _, _ => rfl
    | (y, u) :: r, m, x, hn => by
      unfold bindC
      simp only [List.map_cons, List.mem_cons, not_or] at hn
      rw [bindC_other r _ x hn.2]
      split <;> simp [hn.1]
theorem zip_names : ∀ (ps : List Str) (vs : List Value), vs.length = ps.length → (ps.zip vs).map (·.1) = ps
  | [], [], _ => rfl
  | [], _ :: _, h => by simp at h
  | _ :: _, [], h => by simp at h
  | _ :: ps, _ :: vs, h => by simp [zip_names ps vs (by simpa using h)]

def Ends (d : PyData) : Fw → Gm → Prop
  | .ret d', _ => d' = d
  | .next, _ => d = .none
  | _, _ => False

theorem call_enterC {T : St} {a : Addr} {name qual : Str} {params : Arguments} {body : List Stmt} {scope : Scope} {dV kV doc pm cdv ct oc : Value} {an od : Option Addr} {osl : Array (Option Value)} {ps ls : List Str} {Γp : Gm} {own : Own}
    (ho : T.K.lookup a = some ⟨oc, od, .func (fnOf name qual params body scope dV kV doc pm an cdv ct), osl⟩) (hcd : codeIn T.K cdv qual = true)
    (hb : Binds (fnOf name qual params body scope dV kV doc pm an cdv ct) ps) (hp : Γp.map (·.1) = ps) (hok : GmOk (ps ++ ls)) (hk : ∀ x ∈ ps, scope.names.lookup x = some .local ∨ scope.names.lookup x = some .cell)
    (hsc : scope.kind = .function ∧ scope.isCoroutine = false ∧ scope.isGenerator = false) {A : Around} {s : Shared} {E : Value → Shared → Prop} {Q : Value → Shared → Prop} {vals : List Value} {D : Addr → Prop} {g : Heap} (hroom : A.depth < recursionLimit) (hw : Wd T s.heap) (hg : ∀ b o, g.get? b = some o → s.heap.get? b = some o) (hwg : Wd T g) (hD : ∀ a, D a → g.get? a ≠ none) (hlen : vals.length = ps.length)
    (hown : ∀ x a, own x = some a → g.get? a = none ∧ ∃ o, s.heap.get? a = some o ∧ (o.dict = none ∧ ∀ vs, o.data ≠ .fields vs) ∧ o.cls ≠ .type "tuple" ∧ o.cls ≠ .type "frame") (hinj : ∀ x y a, own x = some a → own y = some a → x = y)
    (hsl : ∀ env : Env, s.heap.get? env.locals = none → (∀ y c, env.cells.lookup y = some c → s.heap.get? c = none) → (∀ y, env.kindOf y = scope.names.lookup y) → ∀ x v fl, (x, some (v, fl)) ∈ Γp → ∃ val, (x, val) ∈ ps.zip vals ∧ SlotRep T D env own s.heap x val v fl)
    (h : ∀ env s₁, env.scope = scope → env.frame = some env.locals → s.heap.get? env.locals = none → SI T { s with heap := g } D env own (Γp ++ ls.map fun x => (x, none)) s₁ → (∀ b o, s.heap.get? b = some o → s₁.heap.get? b = some o) →
      wpAny T.M (A.deeper env) (execs body env) (fun f s' => Q (match f with | .ret v => v | _ => .none) s') (fun e s' => wpAny T.M (A.deeper env) (leaving env e) (fun _ s'' => E e s'') (fun e' s'' => E e' s'') s') s₁) :
    codeAny T.M A (.call (.ref a) ⟨vals, []⟩) (fun r s' => match r with | .ok (.ret v) => Q v s' | .ok _ => False | .error e => E e s') s := by
  have hnd : ((ps.zip vals).map (·.1)).Nodup := by rw [zip_names ps vals hlen]; exact (List.nodup_append.mp hok.nodup).1
  have hcs : ∀ k x, scope.names.lookup x = some .cell → ∃ c, (cellsFrom k scope.names []).lookup x = some c := fun k x e => Option.isSome_iff_exists.mp (cellsFrom_some scope.names k [] (.inl e))
  have hxp : ∀ {x : Str} {v : Value}, (x, v) ∈ ps.zip vals → x ∈ ps := fun hx => by have := List.mem_map_of_mem (f := fun p : Str × Value => p.1) hx; rwa [zip_names ps vals hlen] at this
  have gnone : ∀ b, s.heap.get? b = none → g.get? b = none := fun b e => by
    cases q : g.get? b with
    | none => rfl
    | some o => have := hg b o q; rw [e] at this; cases this
  refine codeAny_call_cells (fd := fnOf name qual params body scope dV kV doc pm an cdv ct) (body := body) (binds := ps.zip vals) hroom (hw.k a _ ho) rfl hw.lim (codeRec_of (fun b o e => hw.k b o e) hcd) rfl (hb vals hlen) rfl (fun x hx => ?_) (fun s₁ I => ?_) hsc.2.1 hsc.2.2 hsc.1
  · rcases hk x.1 (hxp hx) with e | e
    · exact .inl e
    · exact .inr ⟨e, by obtain ⟨c, hc⟩ := hcs (s.heap.objs.size + 1) x.1 e; show ((cellsFrom _ scope.names []).lookup x.1).isSome = true; rw [hc]; rfl⟩
  · have hkd : ∀ x, (callEnvC (fnOf name qual params body scope dV kV doc pm an cdv ct) s.heap.objs.size a).kindOf x = scope.names.lookup x := fun _ => rfl
    have hL : (callEnvC (fnOf name qual params body scope dV kV doc pm an cdv ct) s.heap.objs.size a).locals = s.heap.objs.size := rfl
    have hfr : (callEnvC (fnOf name qual params body scope dV kV doc pm an cdv ct) s.heap.objs.size a).frame = some s.heap.objs.size := rfl
    have hsn : (callEnvC (fnOf name qual params body scope dV kV doc pm an cdv ct) s.heap.objs.size a).scope = scope := rfl
    have heg : (callEnvC (fnOf name qual params body scope dV kV doc pm an cdv ct) s.heap.objs.size a).globals = mainGlobals := rfl
    have heb : (callEnvC (fnOf name qual params body scope dV kV doc pm an cdv ct) s.heap.objs.size a).builtins = builtinsNs := rfl
    have hcl : ∀ x, scope.names.lookup x = some .cell → ∃ c, (callEnvC (fnOf name qual params body scope dV kV doc pm an cdv ct) s.heap.objs.size a).cells.lookup x = some c := fun x e => hcs _ x e
    have key := h (callEnvC (fnOf name qual params body scope dV kV doc pm an cdv ct) s.heap.objs.size a) s₁ hsn (by rw [hL]; exact hfr) (by rw [hL]; exact Heap.get?_none_of_le (Nat.le_refl _)) ?_ I.toInCall.keep
    · exact key
    generalize callEnvC (fnOf name qual params body scope dV kV doc pm an cdv ct) s.heap.objs.size a = env at hkd hL hfr hsn heg heb hcl I
    have hLn : s.heap.get? env.locals = none := Heap.get?_none_of_le (by rw [hL]; exact Nat.le_refl _)
    have hCn : ∀ x c, env.cells.lookup x = some c → s.heap.get? c = none := fun x c hc => by
      have this : env.locals < c := I.above x c (mem_of_lookup hc)
      exact Heap.get?_none_of_le (by rw [← hL]; exact Nat.le_of_lt this)
    have hF : Frm T.N { s with heap := g } env (bindL env.kindOf (ps.zip vals) fun _ => none) (bindC env.kindOf (ps.zip vals) fun _ => none) s₁ :=
      ⟨by obtain ⟨h', tk, e⟩ := I.toInCall.same; exact ⟨h', tk, e⟩, .of fun b o e => I.toInCall.keep b o (hg b o e), I.toInCall.ns, I.cell, gnone _ hLn, fun x c hc => ⟨gnone _ (hCn x c hc), Nat.ne_of_gt (I.above x c (mem_of_lookup hc))⟩, I.apart⟩
    have kp : KpH T.N s.heap s₁.heap := .of I.toInCall.keep
    refine ⟨⟨by rw [hsn]; exact hsc.1, heg, heb, fun x hx => hcl x (by rw [← hkd]; exact hx)⟩, ⟨fun x hx => hcl x (by rw [← hkd]; exact hx)⟩, ?_, hwg, hD, fun x a e => ?_, hinj, _, _, hF, fun x v fl hm => ?_⟩
    · rw [List.map_append, hp]
      have : (ls.map fun x => ((x, none) : Str × Slot)).map (·.1) = ls := by rw [List.map_map]; exact List.map_id' ls
      rw [this]; exact hok
    · obtain ⟨h1, o, h2, h3, h4, h5⟩ := hown x a e
      exact ⟨h1, fun q => (by rw [q, hLn] at h2; cases h2), fun y c hc q => (by rw [q, hCn y c hc] at h2; cases h2), o, I.toInCall.keep a o h2, h3, h4, h5⟩
    · rcases List.mem_append.mp hm with hm | hm
      · obtain ⟨val, h1, h2⟩ := hsl env hLn hCn hkd x v fl hm
        refine ⟨val, ?_, h2.kp kp⟩
        rcases hk x (hxp h1) with e | e
        · exact .inl ⟨by rw [hkd]; exact e, bindL_get _ _ x val hnd h1 (by rw [hkd]; exact e)⟩
        · exact .inr ⟨by rw [hkd]; exact e, hcl x e, bindC_get _ _ x val hnd h1 (by rw [hkd, e]; simp)⟩
      · obtain ⟨y, _, e⟩ := List.mem_map.mp hm
        cases e
theorem call_enter {T : St} {a : Addr} {xs : List Vl} {name qual : Str} {params : Arguments} {body : List Stmt} {scope : Scope} {dV kV doc pm cdv ct oc : Value} {an od : Option Addr} {osl : Array (Option Value)} {ps ls : List Str} {Γp : Gm}
    (ho : T.K.lookup a = some ⟨oc, od, .func (fnOf name qual params body scope dV kV doc pm an cdv ct), osl⟩) (hcd : codeIn T.K cdv qual = true)
    (hb : Binds (fnOf name qual params body scope dV kV doc pm an cdv ct) ps) (hp : Prm ps xs Γp) (hok : GmOk (ps ++ ls)) (hk : ∀ x ∈ ps, scope.names.lookup x = some .local ∨ scope.names.lookup x = some .cell)
    (hsc : scope.kind = .function ∧ scope.isCoroutine = false ∧ scope.isGenerator = false) {A : Around} {s : Shared} {E : Value → Shared → Prop} {Q : Value → Shared → Prop} {vals : List Value} {D : Addr → Prop} {g : Heap} (hroom : A.depth < recursionLimit) (hw : Wd T s.heap) (hg : ∀ b o, g.get? b = some o → s.heap.get? b = some o) (hwg : Wd T g) (hD : ∀ a, D a → g.get? a ≠ none) (hr : RepAs T.w s.heap vals xs)
    (h : ∀ env s₁, env.scope = scope → env.frame = some env.locals → s.heap.get? env.locals = none → SI T { s with heap := g } D env (fun _ => none) (Γp ++ ls.map fun x => (x, none)) s₁ → (∀ b o, s.heap.get? b = some o → s₁.heap.get? b = some o) →
      wpAny T.M (A.deeper env) (execs body env) (fun f s' => Q (match f with | .ret v => v | _ => .none) s') (fun e s' => wpAny T.M (A.deeper env) (leaving env e) (fun _ s'' => E e s'') (fun e' s'' => E e' s'') s') s₁) :
    wpAny T.M A (call (.ref a) vals) Q E s :=
  wpAny_call <| call_enterC ho hcd hb hp.names hok hk hsc hroom hw hg hwg hD (hr.length.trans hp.length) (fun x a e => (by cases e)) (fun x y a e => (by cases e)) (fun env hL hC _ x v fl hm => by
    obtain ⟨val, h1, h2, h3, h4⟩ := hp.get hr x v fl hm
    refine ⟨val, h1, ?_⟩
    cases fl with
    | o => exact absurd rfl h3.1
    | s x => exact absurd rfl (h3.2 x)
    | c =>
      obtain ⟨d', rfl, hs⟩ := h4 rfl
      exact Rep.still h2 hs
    | b => exact RepV.mono (RepV.there h2) fun b hb => ⟨fun q => hb.2 (q ▸ hL), fun y c hc q => hb.2 (q ▸ hC y c hc), fun y => by simp⟩) h
theorem Calls.def {T : St} {n : Nat} {a : Addr} {xs : List Vl} {d : PyData} {name qual : Str} {params : Arguments} {body : List Stmt} {scope : Scope} {dV kV doc pm cdv ct oc : Value} {an od : Option Addr} {osl : Array (Option Value)} {ps ls : List Str} {Γp : Gm}
    (ho : T.K.lookup a = some ⟨oc, od, .func (fnOf name qual params body scope dV kV doc pm an cdv ct), osl⟩) (hcd : codeIn T.K cdv qual = true)
    (hb : Binds (fnOf name qual params body scope dV kV doc pm an cdv ct) ps) (hp : Prm ps xs Γp) (hok : GmOk (ps ++ ls)) (hk : ∀ x ∈ ps, scope.names.lookup x = some .local ∨ scope.names.lookup x = some .cell)
    (hsc : scope.kind = .function ∧ scope.isCoroutine = false ∧ scope.isGenerator = false)
    (h : ∀ env : Env, env.scope = scope → Ex T n env (Γp ++ ls.map fun x => (x, none)) body (Ends d)) : Calls T (n + 1) a xs d :=
  ⟨fun {A s E Q vals} D hA hw hD hr hq => call_enter (g := s.heap) ho hcd hb hp hok hk hsc (by have := hA.depth; omega) hw (fun _ _ e => e) hw hD hr fun env s₁ he _ _ S _ => by
    refine (h env he).run (hA.deeper _) S (fun g g' s' Γ' own' S' p o fr q => ?_) fun k e s' Γ' own' S' p o er q => er.elim
    obtain ⟨m, cm, F', _⟩ := S'.frm
    have hkp : Kp T.N s s' := by obtain ⟨h', tk, e⟩ := F'.same; subst e; exact ⟨h', tk, rfl, F'.keep⟩
    cases g' with
    | ret d' =>
      cases g <;> first | exact fr.elim | skip
      have : d' = d := q
      subst this
      exact hq _ s' hkp fr
    | next =>
      cases g <;> first | exact fr.elim | skip
      have : d = .none := q
      subst this
      exact hq _ s' hkp repF_none
    | brk => exact q.elim
    | cont => exact q.elim
    | exc k => exact q.elim⟩
theorem Fun.def {T : St} {n : Nat} {f : Str} {a : Addr} {xs : List Vl} {d : PyData} {name qual : Str} {params : Arguments} {body : List Stmt} {scope : Scope} {dV kV doc pm cdv ct oc : Value} {an od : Option Addr} {osl : Array (Option Value)} {ps ls : List Str} {Γp : Gm}
    (G : Gd T) (hn : nsIn T.K mainGlobals f = some (some (.ref a))) (ho : T.K.lookup a = some ⟨oc, od, .func (fnOf name qual params body scope dV kV doc pm an cdv ct), osl⟩) (hcd : codeIn T.K cdv qual = true)
    (hb : Binds (fnOf name qual params body scope dV kV doc pm an cdv ct) ps) (hp : Prm ps xs Γp) (hok : GmOk (ps ++ ls)) (hk : ∀ x ∈ ps, scope.names.lookup x = some .local ∨ scope.names.lookup x = some .cell)
    (hsc : scope.kind = .function ∧ scope.isCoroutine = false ∧ scope.isGenerator = false)
    (h : ∀ env : Env, env.scope = scope → Ex T n env (Γp ++ ls.map fun x => (x, none)) body (Ends d)) : Fun T (n + 1) f xs d :=
  ⟨a, _, G.g f _ hn, ⟨_, ho, rfl⟩, Calls.def ho hcd hb hp hok hk hsc h⟩
end Mine
end
section
open PySem PySem.Calls PyProof.Rows PySem.W
set_option linter.all false
namespace Mine

mutual
theorem reads_notRec {h : Heap} : ∀ {v : Value} {d : PyData} {as : List Addr}, Reads h v d as → ∀ a ∈ as, ∃ o, h.get? a = some o ∧ ∀ vs, o.data ≠ .fields vs
  | _, _, _, .none, a, ha => by cases ha
  | _, _, _, .bool b, a, ha => by cases ha
  | _, _, _, .int i t, a, ha => by cases ha
  | _, _, _, .str x t, a, ha => by cases ha
  | _, _, _, .list ho hc hd hall, a, ha => by
    rcases List.mem_cons.mp ha with e | ha
    · subst e; exact ⟨_, ho, by rw [hd]; simp⟩
    · exact readsAll_notRec hall a ha
  | _, _, _, .tuple ho hc hd hall, a, ha => readsAll_notRec hall a ha
  | _, _, _, .dict ho hc hd h1 h2, a, ha => by
    simp only [List.cons_append, List.mem_cons, List.mem_append] at ha
    rcases ha with e | ha | ha
    · subst e; exact ⟨_, ho, by rw [hd]; simp⟩
    · exact readsAll_notRec h1 a ha
    · exact readsAll_notRec h2 a ha
theorem readsAll_notRec {h : Heap} : ∀ {vs : List Value} {ds : List PyData} {as : List Addr}, ReadsAll h vs ds as → ∀ a ∈ as, ∃ o, h.get? a = some o ∧ ∀ vs, o.data ≠ .fields vs
  | _, _, _, .nil, a, ha => by cases ha
  | _, _, _, .cons h1 h2, a, ha => by
    rcases List.mem_append.mp ha with ha | ha
    · exact reads_notRec h1 a ha
    · exact readsAll_notRec h2 a ha
end
def IsRec (h : Heap) (b : Addr) : Prop := ∃ o vs, h.get? b = some o ∧ o.data = .fields vs
theorem Rep.notRec {w : World} {R : Addr → Prop} {h : Heap} {v : Value} {d : PyData} (x : Rep w R h v d) : Rep w (fun a => R a ∧ ¬ IsRec h a) h v d :=
  let ⟨as, r, hr, hd⟩ := x; ⟨as, r, fun a ha => ⟨hr a ha, fun ⟨o, vs, e, q⟩ => by obtain ⟨o', e', hn⟩ := reads_notRec r a ha; rw [e] at e'; cases e'; exact hn vs q⟩, hd⟩
theorem FieldsRep.notRec {w : World} {R : Addr → Prop} {h : Heap} : ∀ {es : List DictEntry} {fs : List (Str × PyData)}, FieldsRep w R h es fs → FieldsRep w (fun a => R a ∧ ¬ IsRec h a) h es fs
  | [], [], _ => trivial
  | _ :: _, (_, _) :: _, ⟨a, b, c, r⟩ => ⟨a, b, c.notRec, r.notRec⟩
theorem RepV.notRec {w : World} {R : Addr → Prop} {h : Heap} {v : Value} {x : Vl} (r : RepV w R h v x) : RepV w (fun a => R a ∧ ¬ IsRec h a) h v x := by
  cases x with
  | d x => exact Rep.notRec r
  | i C fs =>
    obtain ⟨x, dx, es, n, a1, a2, a3, a4, a5, a6⟩ := r
    exact ⟨x, dx, es, n, a1, ⟨a2, fun ⟨o, vs, e, q⟩ => by rw [a4] at e; cases e; cases q⟩, ⟨a3, fun ⟨o, vs, e, q⟩ => by rw [a5] at e; cases e; cases q⟩, a4, a5, a6.notRec⟩
theorem isRec_notTup {h : Heap} {z : Addr} (hz : IsRec h z) : NotTup h z := fun o vs n e _ hd => by
  obtain ⟨o', vs', e', hd'⟩ := hz
  rw [e] at e'; cases e'; rw [hd] at hd'; cases hd'

section
variable {T : St} {s₀ s s' : Shared} {d₀ : Addr → Prop} {env : Env} {own : Own} {Γ : Gm}
theorem SI.recs {X : Addr → Prop} (S : SI T s₀ d₀ env own Γ s) (hs : ∃ h tk, s' = { s with heap := h, toks := tk }) (hX : ∀ b, X b → IsRec s.heap b) (hnew : ∀ b, X b → s₀.heap.get? b = none) (hc : ChgH T.N X s.heap s'.heap) : SI T s₀ d₀ env own Γ s' := by
  obtain ⟨m, cm, F, hn⟩ := S.frm
  have ntup : ∀ z, X z → NotTup s.heap z := fun z hz => isRec_notTup (hX z hz)
  refine ⟨S.eok, S.cok, S.ok, S.wd0, S.d0, fun x a e => ?_, S.ownInj, m, cm, ⟨?_, fun b o e => ?_, ?_, fun x c hcx => ?_, F.newL, F.newC, F.apart⟩, fun x v fl hm => ?_⟩
  · obtain ⟨h1, h2, h3, o, h4, h5, h6, h7⟩ := S.ownNew x a e
    exact ⟨h1, h2, h3, o, hc.plain h4 (fun hx => by obtain ⟨o', vs, e', q⟩ := hX a hx; rw [h4] at e'; cases e'; exact h5.2 vs q) h7, h5, h6, h7⟩
  · obtain ⟨h, tk, rfl⟩ := F.same
    obtain ⟨h', tk', rfl⟩ := hs
    exact ⟨h', tk', rfl⟩
  · obtain ⟨sl, e1, f1⟩ := F.keep b o e
    obtain ⟨sl', e2, f2⟩ := hc b _ e1 fun hx => by rw [hnew b hx] at e; cases e
    exact ⟨sl', e2, fun q => (f2 q).trans (f1 q)⟩
  · obtain ⟨o, es, ep, ho, hd, r⟩ := F.ns
    obtain ⟨o', e, _, _, ed⟩ := hc.gets ho fun hx => by obtain ⟨o', vs, e', q⟩ := hX _ hx; rw [ho] at e'; cases e'; rw [hd] at q; cases q
    exact ⟨o', es, ep, e, ed.trans hd, r⟩
  · obtain ⟨o, ho, hd⟩ := F.cell x c hcx
    obtain ⟨o', e, _, _, ed⟩ := hc.gets ho fun hx => by obtain ⟨o', vs, e', q⟩ := hX _ hx; rw [ho] at e'; cases e'; rw [hd] at q; cases q
    exact ⟨o', e, ed.trans hd⟩
  · obtain ⟨val, l, r⟩ := hn x v fl hm
    refine ⟨val, l, ?_⟩
    cases fl with
    | c => exact (RepV.chg (RepV.notRec r) hc ntup fun a ha hx => ha.2 (hX a hx)).mono fun a ha => ha.1
    | b => exact (RepV.chg (RepV.notRec r) hc ntup fun a ha hx => ha.2 (hX a hx)).mono fun a ha => ha.1
    | o =>
      obtain ⟨d, a, as, e1, e2, e3, e4, e5, e6⟩ := r
      have hna : ∀ b ∈ a :: as, ¬ X b := fun b hb hx => by
        obtain ⟨o, vs, e, q⟩ := hX b hx
        obtain ⟨o', e', hn⟩ := reads_notRec e4 b hb
        rw [e] at e'; cases e'; exact hn vs q
      exact ⟨d, a, as, e1, e2, e3, reads_chg hc ntup e4 hna, e5, e6.chg hc hna⟩
    | s a =>
      obtain ⟨C, fs, dx, es, n, e1, e2, e3, e4, e5, e6, e7⟩ := r
      have h1 : ¬ X a.1 := fun hx => by obtain ⟨o, vs, e, q⟩ := hX a.1 hx; rw [e5] at e; cases e; cases q
      have h2 : ¬ X dx := fun hx => by obtain ⟨o, vs, e, q⟩ := hX dx hx; rw [e6] at e; cases e; cases q
      refine ⟨C, fs, dx, es, n, e1, e2, e3, e4, hc.plain e5 h1 (by simp), hc.plain e6 h2 (by simp), ?_⟩
      exact e7.chg hc ntup (fun v d as r _ _ b hb hx => by
        obtain ⟨o, vs, e, q⟩ := hX b hx
        obtain ⟨o', e', hn⟩ := reads_notRec r b hb
        rw [e] at e'; cases e'; exact hn vs q) (fun b hb _ => hb) fun b _ hb => hb
end

structure Wk (T : St) (A : Around) (I : Addr) (fp wr : List Addr) (n : Nat) (P : Nat → Value → Prop) (St : Nat → Heap → Prop) : Prop where
  walks : Walks T.prog T.w A I fp wr n P St
  rcd : ∀ i h, St i h → ∀ b ∈ wr, IsRec h b
  nf : ∀ i h, St i h → ∀ b ∈ fp, ∃ o, h.get? b = some o ∧ o.cls ≠ .type "frame"
def TupObj (h : Heap) (b : Addr) : Prop := ∃ o vs k, h.get? b = some o ∧ o.cls = .type "tuple" ∧ o.data = .seq vs k
structure Itr (T : St) (n : Nat) (env : Env) (Γ : Gm) (e : PySem.Expr) (items : List PyData) (fl : Fl) : Prop where
  run : ∀ {A : Around} {reg : Fl → Addr → Prop} {s : Shared} {E : Value → Shared → Prop} {Q : Value → Shared → Prop}, Amb n A → Rd T env reg Γ s →
    (∀ I s₂ fp wr P St, Kp T.N s s₂ → Wk T A I fp wr items.length P St → St 0 s₂.heap → (∀ b ∈ wr, s.heap.get? b = none) → (∀ b ∈ fp, b ∈ wr ∨ reg fl b ∨ TupObj s₂.heap b) →
      (∀ i v, i < items.length → P i v → ∃ d, items[i]? = some d ∧ Rep T.w (reg fl) s₂.heap v d) → Q (.ref I) s₂) → wpAny T.M A (eval e env) (fun x s₁ => wpAny T.M A (pyIter x) Q E s₁) E s
  hs : ∀ x, foldedSetIterable e env x = pure x

def TurnF (I : Nat → Gm → Prop) (i : Nat) (Q : Fw → Gm → Prop) : Fw → Gm → Prop
  | .next, Γ => I (i + 1) Γ
  | .cont, Γ => I (i + 1) Γ
  | .brk, Γ => Q .next Γ
  | .ret d, Γ => Q (.ret d) Γ
  | .exc e, Γ => Q (.exc e) Γ

section
variable {T : St} {n : Nat} {env : Env} {Γ Γ' : Gm} {Q Q' : Fw → Gm → Prop}
theorem Ex1.forI {x : Str} {p₁ p : Pos} {iter : PySem.Expr} {body : List Stmt} {items : List PyData} {fl : Fl} (hi : Itr T n env Γ iter items fl) (hfl : fl ≠ .o ∧ ∀ x, fl ≠ .s x) (hk : env.kindOf x = some .local ∨ env.kindOf x = some .cell) (I : Nat → Gm → Prop) (h0 : I 0 Γ)
    (hturn : ∀ i d Γ₁, items[i]? = some d → I i Γ₁ → ∃ fl' Γ₂, (fl' = fl ∨ (fl' = .c ∧ still d = true)) ∧ Put Γ₁ x (some (.d d, fl')) Γ₂ ∧ Ex T n env Γ₂ body (TurnF I i Q))
    (hend : ∀ Γ₁, I items.length Γ₁ → Q .next Γ₁) : Ex1 T n env Γ (.For (.Name x p₁) iter body [] p) Q := ⟨fun {A s₀ d₀ own s E QQ} hA S h hx => by
  refine wpAny_For (hi.run hA S.rd fun It s₂ fp wr P St k₂ W hst hwr hfp hP => ?_) hi.hs
  have hS0 := S
  obtain ⟨m0, cm0, F0, _⟩ := hS0.frm
  have hwr0 : ∀ b ∈ wr, s₀.heap.get? b = none := fun b hb => F0.keep.none (hwr b hb)
  have notMay : ∀ b, (regOf d₀ env own fl b) → ¬ May env own b := fun b hb => by
    cases fl with
    | o => exact absurd rfl hfl.1
    | s x => exact absurd rfl (hfl.2 x)
    | b => exact regOf_not_may hb
    | c => exact regOf_not_may (regOf_cb hb)
  have wrNotMay : ∀ b ∈ wr, ¬ May env own b := fun b hb hm => by
    rcases hm with q | ⟨y, q⟩ | ⟨y, q⟩
    · obtain ⟨o, _, _, ho, _⟩ := F0.ns; rw [← q, hwr b hb] at ho; cases ho
    · obtain ⟨o, ho, _⟩ := F0.cell y b q; rw [hwr b hb] at ho; cases ho
    · obtain ⟨_, _, _, o, ho, _⟩ := S.ownNew y b q; rw [hwr b hb] at ho; cases ho
  have S₂ := S.kp k₂
  have ntup2 : ∀ z, (May env own z ∨ z ∈ wr) → NotTup s₂.heap z := fun z hz => hz.elim (fun q => May.notTup S₂ z q) fun q => isRec_notTup (W.rcd 0 _ hst z q)
  refine codeAny_forLoop (fun k s' => ∃ i Γ₁ own₁, k = items.length + 1 - i ∧ i ≤ items.length ∧ SI T s₀ d₀ env own₁ Γ₁ s' ∧ St i s'.heap ∧ Pres T.N env own s s' ∧ OwnLe own own₁ s ∧ OwnLe own own₁ s₂ ∧ ChgH T.N (fun b => May env own b ∨ b ∈ wr) s₂.heap s'.heap ∧ (∀ b, s'.heap.get? b = none → s₂.heap.get? b = none) ∧ I i Γ₁)
    (fun k s' hI => ?_) (items.length + 1) ⟨0, Γ, own, by omega, Nat.zero_le _, S₂, hst, .of_kp k₂, .refl _ _, .refl _ _, .of_kp (.refl _), fun _ e => e, h0⟩
  obtain ⟨i, Γ₁, own₁, rfl, hile, S₁, hst₁, p₁', o₁, o₁', chg₁, alive₁, hInv⟩ := hI
  have fpFix : ∀ (own₂ : Own), (∀ y a, own₂ y = some a → own₁ y = some a) → ∀ b ∈ fp, ¬ May env own₂ b := fun own₂ ho b hb hm => by
    have hb' : ¬ May env own b := (hfp b hb).elim (wrNotMay b) fun h => h.elim (notMay b) fun ⟨o, vs, k, e, hc, hd⟩ hm => May.notTup S₂ b hm o vs k e hc hd
    rcases hm with q | q | ⟨y, q⟩
    · exact hb' (.inl q)
    · exact hb' (.inr (.inl q))
    · rcases o₁' y b (ho y b q) with ⟨z, hz⟩ | hz
      · exact hb' (.inr (.inr ⟨z, hz⟩))
      · obtain ⟨o, e, _⟩ := W.nf 0 _ hst b hb
        rw [hz] at e; cases e
  by_cases hlt : i < items.length
  · refine W.walks.item i s' _ _ hlt hst₁ fun v h' tk hPv hst' hk' => ?_
    have chgW : ChgH T.N (· ∈ wr) s'.heap h' := fun b o e hb => ⟨o.slots, hk' b o hb e, fun _ => rfl⟩
    have aliveW : ∀ b, h'.get? b = none → s'.heap.get? b = none := fun b e => by
      cases q : s'.heap.get? b with
      | none => rfl
      | some o =>
        by_cases hb : b ∈ wr
        · obtain ⟨o', vs, e', _⟩ := W.rcd _ _ hst' b hb; rw [e] at e'; cases e'
        · have := hk' b o hb q; rw [e] at this; cases this
    have S₃ : SI T s₀ d₀ env own₁ Γ₁ { s' with heap := h', toks := tk } := S₁.recs ⟨_, _, rfl⟩ (fun b hb => W.rcd _ _ hst₁ b hb) hwr0 chgW
    have chg₃ : ChgH T.N (fun b => May env own b ∨ b ∈ wr) s₂.heap h' := chg₁.trans chgW fun b o _ hb => .inr hb
    have p₃ : Pres T.N env own s { s' with heap := h', toks := tk } := ⟨by obtain ⟨⟨h1, tk1, rfl⟩, _⟩ := p₁'; exact ⟨_, _, rfl⟩, p₁'.2.1.trans chgW fun b o e hb => absurd e (by rw [hwr b hb]; simp), fun b e => p₁'.2.2 b (aliveW b e)⟩
    obtain ⟨d, hd, hrep⟩ := hP i v hlt hPv
    obtain ⟨fl', Γ₂, hfl', hput, hbody⟩ := hturn i d Γ₁ hd hInv
    have hrep' : Rep T.w (regOf d₀ env own₁ fl) h' v d := by
      have h1 := Rep.chg (Rep.notRec (Rep.there hrep)) chg₃ ntup2 fun a ha hm => hm.elim (notMay a ha.1.1) fun hw => ha.2 (W.rcd 0 _ hst a hw)
      refine h1.mono fun a ha => ?_
      have hown : ∀ y, own₁ y ≠ some a := fun y q => by
        rcases o₁' y a q with ⟨z, hz⟩ | hz
        · exact notMay a ha.1.1 (.inr (.inr ⟨z, hz⟩))
        · exact ha.1.2 hz
      have := ha.1.1
      cases fl with
      | o => trivial
      | s _ => trivial
      | b => exact ⟨this.1, this.2.1, hown⟩
      | c => exact ⟨this.1, this.2.1, this.2.2.1, hown⟩
    refine wpAny_assign_Name (S₃.store (own' := fun y => if y = x then none else own₁ y) (.refl _) hput hk (fun y hy => by simp [hy]) (fun a e => by simp at e) (fun v' fl'' e => ?_) fun s₄ S₄ p₄ o₄ => ?_)
    · cases e
      have up : ∀ fl a, regOf d₀ env own₁ fl a → regOf d₀ env (fun y => if y = x then none else own₁ y) fl a := regOf_le (fun a ha y => by by_cases hy : y = x <;> simp [hy, ha y])
      rcases hfl' with rfl | ⟨rfl, hst'⟩
      · cases fl' with
        | o => exact absurd rfl hfl.1
        | s x => exact absurd rfl (hfl.2 x)
        | b => exact hrep'.mono (up .b)
        | c => exact hrep'.mono (up .c)
      · exact Rep.still hrep' hst'
    · have p₅ := p₃.trans o₁ p₄
      have o₅ := o₁.trans o₄ p₃
      have o₅' : OwnLe own (fun y => if y = x then none else own₁ y) s₂ := fun y a q => o₁' y a (by by_cases hy : y = x <;> simp [hy] at q; exact q)
      have chg₄ : ChgH T.N (fun b => May env own b ∨ b ∈ wr) s₂.heap s₄.heap := chg₃.trans p₄.2.1 fun b o e hb => .inl (by
        rcases hb with q | q | ⟨y, q⟩
        · exact .inl q
        · exact .inr (.inl q)
        · rcases o₁' y b q with ⟨z, hz⟩ | hz
          · exact .inr (.inr ⟨z, hz⟩)
          · rw [hz] at e; cases e)
      have hst₄ : St (i + 1) s₄.heap := W.walks.frame (i + 1) h' s₄.heap hst' fun b hb o e => by
        obtain ⟨o', e', hnf⟩ := W.nf _ _ hst' b hb
        rw [e] at e'; cases e'
        exact p₄.2.1.plain e (fpFix own₁ (fun _ _ q => q) b hb) hnf
      refine hbody.run hA S₄ (fun f f' s₅ Γ₅ own₅ S₅ p₆ o₆ fr q => ?_) fun k e s₅ Γ₅ own₅ S₅ p₆ o₆ er q => er.elim
      have p₇ := p₅.trans o₅ p₆
      have o₇ := o₅.trans o₆ p₅
      have alive₄ : ∀ b, s₄.heap.get? b = none → s₂.heap.get? b = none := fun b e => alive₁ b (aliveW b (p₄.2.2 b e))
      have o₇' : OwnLe own own₅ s₂ := fun y a q' => by
        rcases o₆ y a q' with ⟨z, hz⟩ | hz
        · exact o₅' z a hz
        · exact .inr (alive₄ a hz)
      have chg₅ : ChgH T.N (fun b => May env own b ∨ b ∈ wr) s₂.heap s₅.heap := chg₄.trans p₆.2.1 fun b o e hb => .inl (by
        rcases hb with q | q | ⟨y, q⟩
        · exact .inl q
        · exact .inr (.inl q)
        · rcases o₅' y b q with ⟨z, hz⟩ | hz
          · exact .inr (.inr ⟨z, hz⟩)
          · rw [hz] at e; cases e)
      have hst₅ : St (i + 1) s₅.heap := W.walks.frame (i + 1) s₄.heap s₅.heap hst₄ fun b hb o e => by
        obtain ⟨o', e', hnf⟩ := W.nf _ _ hst₄ b hb
        rw [e] at e'; cases e'
        exact p₆.2.1.plain e (fpFix _ (fun y a q => by by_cases hy : y = x <;> simp [hy] at q; exact q) b hb) hnf
      have again : I (i + 1) Γ₅ → ∃ m, m < items.length + 1 - i ∧ ∃ i Γ₁ own₁, m = items.length + 1 - i ∧ i ≤ items.length ∧ SI T s₀ d₀ env own₁ Γ₁ s₅ ∧ St i s₅.heap ∧ Pres T.N env own s s₅ ∧ OwnLe own own₁ s ∧ OwnLe own own₁ s₂ ∧ ChgH T.N (fun b => May env own b ∨ b ∈ wr) s₂.heap s₅.heap ∧ (∀ b, s₅.heap.get? b = none → s₂.heap.get? b = none) ∧ I i Γ₁ := fun hI' =>
        ⟨items.length + 1 - (i + 1), by omega, i + 1, Γ₅, own₅, rfl, hlt, S₅, hst₅, p₇, o₇, o₇', chg₅, fun b e => alive₄ b (p₆.2.2 b e), hI'⟩
      cases f' with
      | next => cases f <;> first | exact fr.elim | exact again q
      | cont => cases f <;> first | exact fr.elim | exact again q
      | brk => cases f <;> first | exact fr.elim | exact h _ .next s₅ Γ₅ own₅ S₅ p₇ o₇ trivial q
      | ret d => cases f <;> first | exact fr.elim | exact h _ (.ret d) s₅ Γ₅ own₅ S₅ p₇ o₇ fr q
      | exc e => cases f <;> exact fr.elim
  · have hi' : i = items.length := by omega
    subst hi'
    refine W.walks.done s' _ _ hst₁ fun h' tk hk' => ?_
    have chgW : ChgH T.N (· ∈ wr) s'.heap h' := fun b o e hb => ⟨o.slots, hk' b o hb e, fun _ => rfl⟩
    have S₃ : SI T s₀ d₀ env own₁ Γ₁ { s' with heap := h', toks := tk } := S₁.recs ⟨_, _, rfl⟩ (fun b hb => W.rcd _ _ hst₁ b hb) hwr0 chgW
    have p₃ : Pres T.N env own s { s' with heap := h', toks := tk } := by
      refine ⟨?_, p₁'.2.1.trans chgW fun b o e hb => absurd e (by rw [hwr b hb]; simp), fun b e => ?_⟩
      · obtain ⟨⟨h1, tk1, rfl⟩, _⟩ := p₁'; exact ⟨_, _, rfl⟩
      · by_cases hb : b ∈ wr
        · exact hwr b hb
        · refine p₁'.2.2 b ?_
          cases q : s'.heap.get? b with
          | none => rfl
          | some o => have := hk' b o hb q; rw [show h'.get? b = none from e] at this; cases this
    exact wpAny_execs_nil (h _ .next _ Γ₁ own₁ S₃ p₃ o₁ trivial (hend Γ₁ hInv))⟩
end
end Mine
end
section
open PySem PySem.Calls PyProof.Rows PySem.W
set_option linter.all false
namespace Mine

section
variable {T : St} {n : Nat} {env : Env} {Γ Γ' : Gm}
theorem Itr.list {e : PySem.Expr} {items : List PyData} {fl : Fl} (he : Ev T n env Γ e (.d (.list items)) fl) (hs : ∀ x, foldedSetIterable e env x = pure x) : Itr T n env Γ e items fl := ⟨fun {A reg s E Q} hA R h => by
  refine he.run hA R fun val s₁ k₁ r₁ => ?_
  obtain ⟨a, vs, rfl, hR, hl, hall⟩ := Rep.list_inv r₁
  have hlt : a < s₁.heap.objs.size := by obtain ⟨_, e, _⟩ := hl; exact Heap.lt_size e
  have hkp : KpH T.N s₁.heap (s₁.heap.push { cls := .type "list_iterator", data := .fields #[.ref a, .int 0 0] }) := (KpH.refl _).push _
  have hlen : vs.toArray.size = items.length := by rw [List.size_toArray]; exact hall.length
  refine wpAny_pyIter_list hl (h s₁.heap.objs.size _ [s₁.heap.objs.size, a] [s₁.heap.objs.size] (fun i v => vs.toArray[i]? = some v) (fun i h => h.IsListIter s₁.heap.objs.size a i ∧ h.IsList a vs.toArray) (k₁.trans (.push _ _))
    ⟨hlen ▸ Walks.list hA.handled _ _ (Nat.ne_of_lt hlt) vs.toArray, fun i h st b hb => ?_, fun i h st b hb => ?_⟩ ⟨⟨_, Heap.get?_push_size _ rfl, rfl, rfl⟩, hl.push _⟩ (fun b hb => ?_) (fun b hb => ?_) fun i v _ hv => ?_)
  · simp only [List.mem_singleton] at hb; subst hb
    obtain ⟨o, ho, _, hd⟩ := st.1
    exact ⟨o, _, ho, hd⟩
  · simp only [List.mem_cons, List.not_mem_nil, or_false] at hb
    rcases hb with rfl | rfl
    · obtain ⟨o, ho, hc, _⟩ := st.1; exact ⟨o, ho, by rw [hc]; simp⟩
    · obtain ⟨o, ho, hc, _⟩ := st.2; exact ⟨o, ho, by rw [hc]; simp⟩
  · simp only [List.mem_singleton] at hb; subst hb
    exact k₁.h.none (Heap.get?_none_of_le (Nat.le_refl _))
  · simp only [List.mem_cons, List.not_mem_nil, or_false] at hb
    rcases hb with rfl | rfl
    · exact .inl (by simp)
    · exact .inr (.inl hR)
  · have hv' : vs[i]? = some v := by simpa using hv
    have hi : i < items.length := by rw [← hall.length]; exact (List.getElem?_eq_some_iff.mp hv').1
    obtain ⟨v', hv2, hr⟩ := hall.get i items[i] (List.getElem?_eq_getElem hi)
    rw [hv'] at hv2; cases hv2
    exact ⟨_, List.getElem?_eq_getElem hi, hr.keeps hkp⟩, hs⟩

def rangeD (k : Nat) : List PyData := (List.range k).map fun (i : Nat) => PyData.int (i : Int)
theorem rangeD_length (k : Nat) : (rangeD k).length = k := by simp [rangeD]
theorem rangeD_get {k i : Nat} {d : PyData} (h : (rangeD k)[i]? = some d) : i < k ∧ d = .int (i : Int) := by
  have hi : i < k := by have := (List.getElem?_eq_some_iff.mp h).1; rwa [rangeD_length] at this
  refine ⟨hi, ?_⟩
  have : (rangeD k)[i]? = some (.int (i : Int)) := by simp [rangeD, hi]
  rw [this] at h; cases h; rfl
theorem rangeD_at {k i : Nat} (hi : i < k) : (rangeD k)[i]? = some (.int (i : Int)) := by simp [rangeD, hi]
theorem Itr.range {e : PySem.Expr} {p pos : Pos} {N : Int} {fl : Fl} (hx : env.kindOf "range" = some .globalImplicit) (hg : T.mg "range" = none) (hb : T.mb "range" = some (.type "range")) (he : Ev T n env Γ e (.d (.int N)) fl) (hlo : -(2 ^ 62) ≤ N) (hhi : N < 2 ^ 62)
    (hse : starEach [e] env = [(false, eval e env)]) : Itr T n env Γ (.Call (.Name "range" p) [e] [] pos) (rangeD N.toNat) .c := ⟨fun {A reg s E Q} hA R h => by
  refine wpAny_Call_NameR (ld_builtin R hx (by decide +kernel) hg hb ?_)
  have hb1 : backTo pos (starEach [e] env) = [(false, eval e env)] := by rw [hse]; rfl
  rw [hb1]
  refine PyProof.Rows.callWith_type rfl (evalArgs_plain (spliced_cons (he.run hA R fun val s₁ k₁ r₁ => spliced_nil ?_)))
  obtain ⟨t, rfl⟩ := Rep.int_inv r₁
  refine call_range_1 ?_
  refine wpAny_pyIter_range (IsRange.new ..) (small_one (by decide) (by decide) hlo hhi) ?_
  have hsz : Builtin.Range.rangeSize 0 N 1 = (N.toNat : Int) := by rw [rangeSize_one]; split <;> omega
  refine h _ _ [_] [_] (fun i v => ∃ t, v = .int (0 + (i : Nat) * 1) t) (fun i h => IsRangeIter h _ (0 + (i : Nat) * 1) ((N.toNat : Int) - (i : Nat)) 1) (k₁.trans (.mk (((KpH.refl _).push _).push _))) ⟨by rw [rangeD_length]; exact Walks.range hA.handled _ 0 1 N.toNat, fun i h st b hb => ?_, fun i h st b hb => ?_⟩ ?_ (fun b hb => ?_) (fun b hb => .inl hb) fun i v hi hv => ?_
  · simp only [List.mem_singleton] at hb; subst hb; exact ⟨_, _, st, rfl⟩
  · simp only [List.mem_singleton] at hb; subst hb; exact ⟨_, st, by simp⟩
  · have e1 : (0 + ((0 : Nat) : Int) * 1) = 0 := by simp
    have e2 : ((N.toNat : Int) - ((0 : Nat) : Int)) = Builtin.Range.rangeSize 0 N 1 := by rw [hsz]; simp
    rw [e1, e2]
    exact Heap.get?_push_size _ rfl
  · simp only [List.mem_singleton] at hb; subst hb
    refine k₁.h.none (Heap.get?_none_of_le ?_)
    simp [Heap.size_push]
  · obtain ⟨t, rfl⟩ := hv
    rw [rangeD_length] at hi
    exact ⟨_, rangeD_at hi, by simpa using rep_int ..⟩, fun x => rfl⟩
end

theorem forIn_closure {env : Env} (f : Str × NameKind → List (Str × Addr) → Sem (ForInStep (List (Str × Addr))))
    (hf : ∀ name kind cs, f (name, kind) cs = if kind == .free then (do let c ← cellOf env name; pure (.yield ((name, c) :: cs))) else pure (.yield cs)) :
    ∀ (names : List (Str × NameKind)) (acc : List (Str × Addr)), (∀ x, (x, NameKind.free) ∈ names → ∃ c, env.cells.lookup x = some c) → (∀ y c, acc.lookup y = some c → env.cells.lookup y = some c) →
      ∃ cl, forIn names acc f = pure cl ∧ (∀ y c, cl.lookup y = some c → env.cells.lookup y = some c) ∧ (∀ y, ((y, NameKind.free) ∈ names ∨ (acc.lookup y).isSome = true) → ∃ c, cl.lookup y = some c)
  | [], acc, _, hacc => ⟨acc, by rw [List.forIn_nil], hacc, fun y hy => by
      rcases hy with hy | hy
      · cases hy
      · exact Option.isSome_iff_exists.mp hy⟩
  | (name, kind) :: r, acc, hn, hacc => by
    rw [List.forIn_cons, hf]
    by_cases hk : (kind == .free) = true
    · have hk' : kind = .free := by simpa using hk
      subst hk'
      obtain ⟨c, hc⟩ := hn name (.head _)
      have e : cellOf env name = pure c := by unfold cellOf; rw [hc]
      rw [if_pos hk, e]
      obtain ⟨cl, h1, h2, h3⟩ := forIn_closure f hf r ((name, c) :: acc) (fun x hx => hn x (.tail _ hx)) (fun y c' hy => by
        rw [List.lookup_cons] at hy
        by_cases hb : (y == name) = true
        · rw [hb] at hy; cases hy; rw [beq_iff_eq.mp hb]; exact hc
        · simp only [Bool.not_eq_true] at hb; rw [hb] at hy; exact hacc y c' hy)
      refine ⟨cl, h1, h2, fun y hy => h3 y ?_⟩
      rcases hy with hy | hy
      · rcases List.mem_cons.mp hy with e | hy
        · cases e; exact .inr (by rw [List.lookup_cons]; simp)
        · exact .inl hy
      · refine .inr ?_
        rw [List.lookup_cons]
        by_cases hb : (y == name) = true
        · rw [hb]; rfl
        · simp only [Bool.not_eq_true] at hb; rw [hb]; exact hy
    · rw [if_neg hk]
      obtain ⟨cl, h1, h2, h3⟩ := forIn_closure f hf r acc (fun x hx => hn x (.tail _ hx)) hacc
      refine ⟨cl, h1, h2, fun y hy => h3 y ?_⟩
      rcases hy with hy | hy
      · rcases List.mem_cons.mp hy with e | hy
        · cases e; simp at hk
        · exact .inl hy
      · exact .inr hy
theorem closure_ok {env : Env} {scope : Scope} (h : ∀ x, (x, NameKind.free) ∈ scope.names → ∃ c, env.cells.lookup x = some c) :
    ∃ cl, closureFor scope env = pure cl ∧ (∀ y c, cl.lookup y = some c → env.cells.lookup y = some c) ∧ ∀ y, (y, NameKind.free) ∈ scope.names → ∃ c, cl.lookup y = some c := by
  have key : ∀ f : Str × NameKind → List (Str × Addr) → Sem (ForInStep (List (Str × Addr))), (∀ name kind cs, f (name, kind) cs = if kind == .free then (do let c ← cellOf env name; pure (.yield ((name, c) :: cs))) else pure (.yield cs)) →
      ∃ cl, ((forIn scope.names [] f : Sem (List (Str × Addr))) >>= fun r => pure r) = pure cl ∧ (∀ y c, cl.lookup y = some c → env.cells.lookup y = some c) ∧ ∀ y, (y, NameKind.free) ∈ scope.names → ∃ c, cl.lookup y = some c := fun f hf => by
    obtain ⟨cl, h1, h2, h3⟩ := forIn_closure (env := env) f hf scope.names [] h (fun y c hy => by cases hy)
    exact ⟨cl, by rw [h1]; rfl, h2, fun y hy => h3 y (.inl hy)⟩
  unfold closureFor
  refine key _ fun name kind cs => ?_
  cases hk : kind == NameKind.free <;> simp [hk]

theorem relabel_free {env : Env} (hk : env.scope.kind = .function) : ∀ {names : List (Str × NameKind)} {x : Str}, names.lookup x = some .free → env.kindOf x = some .cell →
    (names.map fun (n, k) => if (k == NameKind.free && env.scope.kind == .function && env.kindOf n == some .cell) then (n, NameKind.cell) else (n, k)).lookup x = some .cell
  | [], _, h, _ => by simp at h
  | (n, k) :: r, x, h, hx => by
    have ih := @relabel_free env hk r x
    show List.lookup x ((if (k == NameKind.free && env.scope.kind == .function && env.kindOf n == some .cell) = true then (n, NameKind.cell) else (n, k)) :: _) = _
    cases hn : x == n with
    | true =>
      simp only [List.lookup_cons, hn] at h
      cases h
      have : x = n := beq_iff_eq.mp hn
      subst this
      simp [List.lookup_cons, hk, hx]
    | false =>
      simp only [List.lookup_cons, hn] at h
      by_cases hc : (k == NameKind.free && env.scope.kind == .function && env.kindOf n == some .cell) = true
      · rw [if_pos hc]; simp only [List.lookup_cons, hn]; exact ih h hx
      · rw [if_neg hc]; simp only [List.lookup_cons, hn]; exact ih h hx
theorem relabel_cell {env : Env} : ∀ {names : List (Str × NameKind)} {x : Str}, (∀ y ∈ names, y.2 ≠ .cell) →
    (names.map fun (n, k) => if (k == NameKind.free && env.scope.kind == .function && env.kindOf n == some .cell) then (n, NameKind.cell) else (n, k)).lookup x = some .cell → (x, NameKind.free) ∈ names
  | [], _, _, h => by simp at h
  | (n, k) :: r, x, hc, h => by
    have ih := @relabel_cell env r x fun y hy => hc y (.tail _ hy)
    replace h : List.lookup x ((if (k == NameKind.free && env.scope.kind == .function && env.kindOf n == some .cell) = true then (n, NameKind.cell) else (n, k)) :: _) = some .cell := h
    by_cases hcc : (k == NameKind.free && env.scope.kind == .function && env.kindOf n == some .cell) = true
    · rw [if_pos hcc, List.lookup_cons] at h
      cases hn : x == n with
      | true =>
        simp only [Bool.and_eq_true, beq_iff_eq] at hcc
        rw [beq_iff_eq.mp hn, ← hcc.1.1]; exact .head _
      | false => rw [hn] at h; exact .tail _ (ih h)
    · rw [if_neg hcc, List.lookup_cons] at h
      cases hn : x == n with
      | true => rw [hn] at h; cases h; exact absurd rfl (hc _ (.head _))
      | false => rw [hn] at h; exact .tail _ (ih h)

structure CompScope (scope : Scope) (env : Env) (x : Str) : Prop where
  kind : scope.kind = .function
  ncell : ∀ y ∈ scope.names, y.2 ≠ .cell
  names : ∀ y ∈ scope.names, y.2 = .local → scope.names.lookup y.1 = some .local
  var : scope.names.lookup x = some .local
  free : ∀ y ∈ scope.names, y.2 = .free → env.kindOf y.1 = some .cell
def itemFl (fl : Fl) (d : PyData) : Fl := if still d then .c else fl
def compG (x : Str) (fl : Fl) (Γv : Gm) (d : PyData) : Gm := (x, some (.d d, itemFl fl d)) :: Γv
def CTests (T : St) (n : Nat) (env : Env) (Γ : Gm) (ifs : List PySem.Expr) (b : Bool) : Prop := match ifs with
  | [] => b = true
  | [c] => IsT T n env Γ c b
  | _ => False
theorem CTests.run {T : St} {n : Nat} {env : Env} {Γ : Gm} {ifs : List PySem.Expr} {b : Bool} (h : CTests T n env Γ ifs b) {A : Around} {reg : Fl → Addr → Prop} {s : Shared} {E : Value → Shared → Prop} {Q : Bool → Shared → Prop} (hA : Amb n A) (R : Rd T env reg Γ s)
    (hq : ∀ s', Kp T.N s s' → Q b s') : wpAny T.M A (forIn ifs true fun c r => if r = true then do let ok ← isTrue c env (eval c env); pure (ForInStep.yield ok) else pure (ForInStep.yield r)) Q E s := by
  match ifs, h with
  | [], h => have : b = true := h; subst this; exact wpAny_tests_nil (hq _ (.refl _))
  | [c], h => exact wpAny_tests_one (IsT.run h hA R hq)

theorem RepAll.chg {w : World} {R : Addr → Prop} {X : Addr → Prop} {N : Nat} {h h' : Heap} {vs : List Value} {ds : List PyData} (x : RepAll w R h vs ds) (hk : ChgH N X h h') (hX : ∀ z, X z → NotTup h z) (hR : ∀ a, R a → ¬ X a) : RepAll w R h' vs ds :=
  let ⟨as, r, hr, hd⟩ := x; ⟨as, readsAll_chg hk hX r fun a ha => hR a (hr a ha), hr, hd.chg hk fun a ha => hR a (hr a ha)⟩
theorem RepAll.notRec {w : World} {R : Addr → Prop} {h : Heap} {vs : List Value} {ds : List PyData} (x : RepAll w R h vs ds) : RepAll w (fun a => R a ∧ ¬ IsRec h a) h vs ds :=
  let ⟨as, r, hr, hd⟩ := x; ⟨as, r, fun a ha => ⟨hr a ha, fun ⟨o, vs, e, q⟩ => by obtain ⟨o', e', hn⟩ := readsAll_notRec r a ha; rw [e] at e'; cases e'; exact hn vs q⟩, hd⟩
theorem RepAll.snoc {w : World} {R : Addr → Prop} {h : Heap} {vs : List Value} {ds : List PyData} {v : Value} {d : PyData} (x : RepAll w R h vs ds) (y : Rep w R h v d) : RepAll w R h (vs ++ [v]) (ds ++ [d]) := x.append (.cons y .nil)

theorem comp_core {T : St} {n : Nat} {env : Env} {Γ Γv : Gm} {elt iter : PySem.Expr} {x : Str} {px pos pos' : Pos} {ifs : List PySem.Expr} {scope : Scope} {items : List PyData} {fl : Fl} {f : PyData → PyData} {p : PyData → Bool} (hi : Itr T n env Γ iter items fl) (hc : CompScope scope env x)
    (hv : ∀ q ∈ Γv, q ∈ Γ ∧ scope.names.lookup q.1 = some .free) (hok : GmOk (x :: Γv.map (·.1))) (hz : items.length ≤ sizeLine)
    (htest : ∀ C cl d, d ∈ items → CTests T n (compEnvC scope cl C env) (compG x fl Γv d) ifs (p d)) (helt : ∀ C cl d, d ∈ items → p d = true → Ev T n (compEnvC scope cl C env) (compG x fl Γv d) elt (.d (f d)) .c)
    {use : Option (Value → Sem Unit)} {A : Around} {reg : Fl → Addr → Prop} {s : Shared} {E : Value → Shared → Prop} {Q : Value → Shared → Prop} (hA : Amb n A) (R : Rd T env reg Γ s)
    (h : ∀ D C s', Kp T.N s s' → D ≠ C → s.heap.get? D = none → s.heap.get? C = none → (∃ m, s'.heap.Ns C m) → (∃ ys k, s'.heap.get? D = some { cls := .type "list", data := .seq (List.toArray ys) k } ∧ RepAll T.w (fun a => reg .c a ∧ a ≠ C ∧ a ≠ D) s'.heap ys ((items.filter p).map f)) →
      compPost T.M A E use Q (.ref D) C (.ok .next) s') :
    wpAny T.M A (comprehension (.ListComp elt [⟨.Name x px, iter, ifs, 0⟩] scope pos) scope env pos' (newList []) false (eval iter env) use) Q E s := by
  obtain ⟨cl, hcl, hcl1, hcl2⟩ := closure_ok (env := env) (scope := scope) fun y hy => R.eok.cells y (hc.free (y, .free) hy rfl)
  refine wpAny_comprehension_free rfl hi.hs hcl hc.kind hc.names (hi.run hA R fun I s₂ fp wr P St k₂ W hst hwr hfp hP => ?_)
  refine wpAny_newObj_type (wpAny_newFunctionEnv hc.ncell (by intro y hy; simp at hy) (fun h₁ hns₁ hsb₁ => ?_) hc.kind)
  dsimp only at hns₁ hsb₁ ⊢
  generalize hH2 : s₂.heap.push { cls := .type "list", dict := none, data := .seq ([] : List Value).toArray } = H2 at hns₁ hsb₁ ⊢
  generalize hDe : s₂.heap.objs.size = D at *
  have hC : H2.objs.size = D + 1 := by rw [← hH2, Heap.size_push, hDe]
  generalize hCe : H2.objs.size = C at *
  have hDC : D ≠ C := by omega
  have freshD : s₂.heap.get? D = none := Heap.get?_none_of_le (by omega)
  have freshC : s₂.heap.get? C = none := Heap.get?_none_of_le (by omega)
  have old : ∀ b o, s₂.heap.get? b = some o → h₁.get? b = some o := fun b o e => by
    have hb := Heap.lt_size e
    exact hsb₁.extBut b o (fun q => absurd hb (by rw [show b = C from q, hC, hDe]; exact Nat.not_lt.mpr (Nat.le_succ _))) (Heap.get?_push_of_some _ (hH2 ▸ Heap.get?_push_of_some _ e))
  have hacc : h₁.get? D = some { cls := .type "list", data := .seq (List.toArray ([] : List Value)) 0 } := hsb₁.extBut _ _ hDC (Heap.get?_push_of_some _ (by rw [← hH2, ← hDe]; exact Heap.get?_push_size _ rfl))
  have hst₁ : St 0 h₁ := W.walks.frame _ _ _ hst fun b _ o e => old b o e
  have wrNC : ∀ b ∈ wr, b ≠ C ∧ b ≠ D := fun b hb => by
    obtain ⟨o, vs, e, _⟩ := W.rcd 0 _ hst b hb
    exact ⟨fun q => (by rw [q, freshC] at e; cases e), fun q => (by rw [q, freshD] at e; cases e)⟩
  have fpNC : ∀ b ∈ fp, b ≠ C ∧ b ≠ D := fun b hb => by
    obtain ⟨o, e, _⟩ := W.nf 0 _ hst b hb
    exact ⟨fun q => (by rw [q, freshC] at e; cases e), fun q => (by rw [q, freshD] at e; cases e)⟩
  have hkd0 : ((compEnvC scope cl C env).scope.kind == .class || ((compEnvC scope cl C env).scope.kind == .module && (compEnvC scope cl C env).locals != (compEnvC scope cl C env).globals)) = false := by
    have hkd : (compEnvC scope cl C env).scope.kind = .function := hc.kind
    rw [hkd]; rfl
  have sC : s.heap.get? C = none := k₂.h.none freshC
  have sD : s.heap.get? D = none := k₂.h.none freshD
  have ntW : ∀ i hh, St i hh → ∀ z, z ∈ wr → NotTup hh z := fun i hh st z hz => isRec_notTup (W.rcd i hh st z hz)
  have loop : ∀ s₃ : Shared, s₃ = { s₂ with heap := h₁, toks := s₂.toks + ([] : List (Str × Value)).length } →
      codeAny T.M A (.compLoop (.ListComp elt [⟨.Name x px, iter, ifs, 0⟩] scope pos) 0 (.ref I) (.ref D) (compEnvC scope cl C env)) (compPost T.M A E use Q (.ref D) C) s₃ := by
    rintro s₃ rfl
    refine codeAny_compLoop_tests (fun k s' => ∃ i ys kk m, k = items.length + 1 - i ∧ i ≤ items.length ∧ Kp T.N s s' ∧ ChgH T.N (· ∈ wr) s₂.heap s'.heap ∧ St i s'.heap ∧ s'.heap.Ns C m ∧ s'.heap.get? D = some { cls := .type "list", data := .seq (List.toArray ys) kk } ∧
      RepAll T.w (fun a => reg .c a ∧ a ≠ C ∧ a ≠ D) s'.heap ys (((items.take i).filter p).map f)) (fun k s' hI => ?_) (items.length + 1)
      ⟨0, [], 0, _, by omega, Nat.zero_le _, k₂.trans (.mk (.of old)), .of_kp (.of old), hst₁, hns₁, hacc, by simpa using RepAll.nil⟩
    obtain ⟨i, ys, kk, m, rfl, hile, kp, chg, hsti, hns, hDl, hall⟩ := hI
    by_cases hlt : i < items.length
    · refine W.walks.item i s' _ _ hlt hsti fun v h' tk hPv hst' hk' => ?_
      have hns' : h'.Ns C m := hns.at' fun o e => hk' C o (fun hb => (wrNC C hb).1 rfl) e
      refine wpAny_assign_Name (wpAny_storeName_local (lookup_relabel_local hc.var) hns' (fun h₂ hns₂ hs₂ => ?_) hkd0)
      have hs₂ : Heap.SameBut C h' h₂ := hs₂
      have chgW : ChgH T.N (· ∈ wr) s'.heap h' := fun b o e hb => ⟨o.slots, hk' b o hb e, fun _ => rfl⟩
      have kp₃ : Kp T.N s { s' with heap := h₂, toks := tk + 1 } := by
        obtain ⟨hh, tk', rfl, kph⟩ := kp
        refine ⟨h₂, tk + 1, rfl, fun b o e => ?_⟩
        obtain ⟨sl, e1, f1⟩ := kph b o e
        exact ⟨sl, (hs₂.2 b fun q => by rw [show b = C from q, sC] at e; cases e).trans (hk' b _ (fun hb => by rw [hwr b hb] at e; cases e) e1), f1⟩
      have chg₃ : ChgH T.N (· ∈ wr) s₂.heap h₂ := (chg.trans chgW fun b o _ hb => hb).trans (ChgH.of_but hs₂) fun b o e hb => absurd e (by rw [hb, freshC]; simp)
      have hst₂ : St (i + 1) h₂ := W.walks.frame _ _ _ hst' fun b hb o e => (hs₂.2 b (fpNC b hb).1).trans e
      obtain ⟨d, hd, hrep⟩ := hP i v hlt hPv
      have hmem : d ∈ items := List.mem_of_getElem? hd
      have hDl₂ : h₂.get? D = some { cls := .type "list", data := .seq (List.toArray ys) kk } := (hs₂.2 D hDC).trans (hk' D _ (fun hb => (wrNC D hb).2 rfl) hDl)
      have ntC : NotTup h' C := fun o vs' n' e _ hd' => by obtain ⟨o', _, _, ho, hdd, _⟩ := hns'; rw [ho] at e; cases e; rw [hdd] at hd'; cases hd'
      have hall₂ : RepAll T.w (fun a => reg .c a ∧ a ≠ C ∧ a ≠ D) h₂ ys (((items.take i).filter p).map f) := by
        have h1 := (RepAll.chg (RepAll.notRec hall) chgW (ntW _ _ hsti) fun a ha hx => ha.2 (W.rcd _ _ hsti a hx)).mono fun a ha => ha.1
        exact RepAll.chg h1 (ChgH.of_but (N := T.N) hs₂) (fun z hz => by rw [show z = C from hz]; exact ntC) fun a ha => ha.2.1
      have R₃ : Rd T (compEnvC scope cl C env) (fun fl a => reg fl a ∧ a ≠ C ∧ a ≠ D) (compG x fl Γv d) { s' with heap := h₂, toks := tk + 1 } := by
        refine ⟨⟨hc.kind, R.eok.g, R.eok.b, fun y hy => hcl2 y (relabel_cell hc.ncell hy)⟩, hok, fun y v' fl' hm => ?_, ⟨fun fl' a e => ⟨(R.regs.kp kp₃.h).fresh fl' a e, fun q => ?_, fun q => ?_⟩, fun a ha => ⟨R.regs.cb a ha.1, ha.2⟩, fun a ha => ⟨R.regs.bo a ha.1, ha.2⟩, fun x a ha => ⟨R.regs.os x a ha.1, ha.2⟩⟩, R.wd.kp kp₃.h⟩
        · rcases List.mem_cons.mp hm with e | hm
          · cases e
            refine ⟨v, .inl ⟨lookup_relabel_local hc.var, _, hns₂, by simp⟩, ?_⟩
            have h1 : Rep T.w (fun a => reg fl a ∧ a ≠ C ∧ a ≠ D) h₂ v d := (Rep.chg (Rep.notRec (Rep.there hrep)) chg₃ (ntW _ _ hst) fun a ha hx => ha.2 (W.rcd _ _ hst a hx)).mono fun a ha => ⟨ha.1.1, fun q => ha.1.2 (q ▸ freshC), fun q => ha.1.2 (q ▸ freshD)⟩
            unfold itemFl
            split
            · rename_i hs; exact Rep.still h1 hs
            · exact h1
          · obtain ⟨hg, hfree⟩ := hv _ hm
            obtain ⟨val, hn, hr⟩ := R.names y v' fl' hg
            have hkc : env.kindOf y = some .cell := hc.free (y, .free) (mem_of_lookup hfree) rfl
            refine ⟨val, .inr ⟨relabel_free R.eok.kind hfree hkc, ?_⟩, (RepV.mono (RepV.there hr) fun a ha => ⟨ha.1, fun q => ha.2 (q ▸ sC), fun q => ha.2 (q ▸ sD)⟩).keeps kp₃.h⟩
            rcases hn with ⟨hk1, _⟩ | ⟨_, c, hcc, hcell⟩
            · rw [hkc] at hk1; cases hk1
            · obtain ⟨c', hc'⟩ := hcl2 y (mem_of_lookup hfree)
              have := hcl1 y c' hc'
              rw [hcc] at this; cases this
              exact ⟨c, hc', kp₃.h.cell hcell⟩
        · rw [q] at e; obtain ⟨o, _, _, ho, _⟩ := hns₂; rw [show h₂.get? (compEnvC scope cl C env).locals = none from e] at ho; cases ho
        · rw [q] at e; rw [show h₂.get? D = none from e] at hDl₂; cases hDl₂
      refine (htest C cl d hmem).run hA R₃ fun s₄ k₄ => ?_
      have htk : (items.take (i + 1)).filter p = (items.take i).filter p ++ (if p d then [d] else []) := take_succ_filter p items i d hd
      cases hp : p d with
      | false =>
        simp only [Bool.false_eq_true, if_false]
        refine ⟨items.length + 1 - (i + 1), by omega, i + 1, ys, kk, _, rfl, hlt, kp₃.trans k₄, chg₃.trans (X := (· ∈ wr)) (ChgH.of_kp (X := fun _ => False) k₄.h) (fun _ _ _ hb => hb.elim), W.walks.frame _ _ _ hst₂ fun b hb o e => ?_, k₄.h.ns hns₂, k₄.h.get hDl₂ (by simp), ?_⟩
        · obtain ⟨o', e', hnf⟩ := W.nf _ _ hst₂ b hb
          rw [e] at e'; cases e'
          exact k₄.h.get e hnf
        · rw [htk, hp]; simpa using hall₂.keeps k₄.h
      | true =>
        simp only [if_true]
        refine (helt C cl d hmem hp).run hA (R₃.kp k₄) fun y s₅ k₅ r₅ => ?_
        have k₄₅ := k₄.trans k₅
        have hys : ys.length ≤ sizeLine := by
          have h1 := hall.length
          have h2 : ((items.take i).filter p).length ≤ (items.take i).length := List.length_filter_le _ _
          simp only [List.length_map, List.length_take] at h1 h2
          omega
        have hDl₅ := k₄₅.h.get hDl₂ (by simp)
        refine wpAny_list_append_plain (items := List.toArray ys) (hsz := by simpa using hys) ⟨kk, hDl₅⟩ fun h₆ hl₆ hs₆ => ?_
        obtain ⟨kk', hl₆⟩ := hl₆
        have hk₅ : ∀ b o, b ≠ D → s₅.heap.get? b = some o → h₆.get? b = some o := fun b o hb e => (hs₆.2 b hb).trans e
        have ntD : NotTup s₅.heap D := fun o vs' n' e hcls _ => by rw [hDl₅] at e; cases e; simp at hcls
        refine ⟨items.length + 1 - (i + 1), by omega, i + 1, ys ++ [y], kk', _, rfl, hlt, ?_, ?_, W.walks.frame _ _ _ hst₂ fun b hb o e => ?_, (k₄₅.h.ns hns₂).sameBut hs₆ (Ne.symm hDC), by simpa using hl₆, ?_⟩
        · obtain ⟨hh, tk', rfl, kph⟩ := kp₃.trans k₄₅
          refine ⟨h₆, tk', rfl, fun b o e => ?_⟩
          obtain ⟨sl, e1, f1⟩ := kph b o e
          exact ⟨sl, hk₅ b _ (fun q => by rw [q, sD] at e; cases e) e1, f1⟩
        · exact (chg₃.trans (X := (· ∈ wr)) (ChgH.of_kp (X := fun _ => False) k₄₅.h) (fun _ _ _ hb => hb.elim)).trans (ChgH.of_but hs₆) fun b o e hb => absurd e (by rw [hb, freshD]; simp)
        · obtain ⟨o', e', hnf⟩ := W.nf _ _ hst₂ b hb
          rw [e] at e'; cases e'
          exact hk₅ b o (fpNC b hb).2 (k₄₅.h.get e hnf)
        · rw [htk, hp]
          simp only [if_true, List.map_append, List.map_cons, List.map_nil]
          exact RepAll.chg ((hall₂.keeps k₄₅.h).snoc r₅) (ChgH.of_but (N := T.N) hs₆) (fun z hz => by rw [show z = D from hz]; exact ntD) fun a ha => ha.2.2
    · have hi' : i = items.length := by omega
      subst hi'
      refine W.walks.done s' _ _ hsti fun h' tk hk' => ?_
      have chgW : ChgH T.N (· ∈ wr) s'.heap h' := fun b o e hb => ⟨o.slots, hk' b o hb e, fun _ => rfl⟩
      refine h D C _ ?_ hDC sD sC ⟨m, hns.at' fun o e => hk' C o (fun hb => (wrNC C hb).1 rfl) e⟩ ⟨ys, kk, hk' D _ (fun hb => (wrNC D hb).2 rfl) hDl, ?_⟩
      · obtain ⟨hh, tk', rfl, kph⟩ := kp
        refine ⟨h', tk, rfl, fun b o e => ?_⟩
        obtain ⟨sl, e1, f1⟩ := kph b o e
        exact ⟨sl, hk' b _ (fun hb => by rw [hwr b hb] at e; cases e) e1, f1⟩
      · have h1 := (RepAll.chg (RepAll.notRec hall) chgW (ntW _ _ hsti) fun a ha hx => ha.2 (W.rcd _ _ hsti a hx)).mono fun a ha => ha.1
        simpa using h1
  exact codeAny_compStart_list (loop _ rfl) (W.walks.self 0 _ _ _ hst₁ (loop _ rfl))
end Mine
end
section
open PySem PySem.Calls PyProof.Rows PySem.W
set_option linter.all false
namespace Mine

theorem ns_notTup {h : Heap} {C : Addr} {m : Str → Option Value} (hn : h.Ns C m) : NotTup h C := fun o vs n e _ hd => by
  obtain ⟨o', _, _, ho, hdd, _⟩ := hn
  rw [ho] at e; cases e; rw [hdd] at hd; cases hd

section
variable {T : St} {n : Nat} {env : Env} {Γ Γ' Γv : Gm} {elt iter : PySem.Expr} {x : Str} {px pos : Pos} {ifs : List PySem.Expr} {scope : Scope} {items : List PyData} {fl : Fl} {f : PyData → PyData} {p : PyData → Bool}
theorem EvF.compC (hi : Itr T n env Γ iter items fl) (hc : CompScope scope env x)
    (hv : ∀ q ∈ Γv, q ∈ Γ ∧ scope.names.lookup q.1 = some .free) (hok : GmOk (x :: Γv.map (·.1))) (hz : items.length ≤ sizeLine)
    (htest : ∀ C cl d, d ∈ items → CTests T n (compEnvC scope cl C env) (compG x fl Γv d) ifs (p d)) (helt : ∀ C cl d, d ∈ items → p d = true → Ev T n (compEnvC scope cl C env) (compG x fl Γv d) elt (.d (f d)) .c) :
    EvF T n env Γ (.ListComp elt [⟨.Name x px, iter, ifs, 0⟩] scope pos) (.list ((items.filter p).map f)) := ⟨fun {A reg s E Q} hA R h => by
  rw [eval_ListComp]
  refine comp_core (use := none) hi hc hv hok hz htest helt hA R fun D C s' k hDC sD sC hns hD => ?_
  obtain ⟨m, hns⟩ := hns
  obtain ⟨ys, kk, hDl, hall⟩ := hD
  refine ⟨m, hns, fun h' hs' => ?_⟩
  have hk' : KpH T.N s.heap h' := fun b o e => by
    obtain ⟨sl, e1, f1⟩ := k.h b o e
    exact ⟨sl, (hs'.2 b fun q => by rw [q, sC] at e; cases e).trans e1, f1⟩
  have hall' : RepAll T.w (fun a => reg .c a ∧ a ≠ C ∧ a ≠ D) h' ys ((items.filter p).map f) := RepAll.chg hall (ChgH.of_but (N := T.N) hs') (fun z hz => by rw [show z = C from hz]; exact ns_notTup hns) fun a ha => ha.2.1
  refine h _ _ (by obtain ⟨hh, tk, rfl, _⟩ := k; exact ⟨h', tk, rfl, hk'⟩) ?_
  obtain ⟨as, r, hr, hd⟩ := hall'
  have hD' : h'.get? D = some { cls := .type "list", data := .seq (List.toArray ys) kk } := (hs'.2 D hDC).trans hDl
  refine ⟨D :: as, .list hD' rfl rfl (by simpa using r), fun b hb => ?_, fun b hb => ?_, D, as, rfl, rfl, sD, fun hm => (hr D hm).2.2 rfl, _, hD', rfl⟩
  · rcases List.mem_cons.mp hb with rfl | hb
    · exact R.regs.fresh .c _ sD
    · exact (hr b hb).1
  · rcases List.mem_cons.mp hb with rfl | hb
    · exact ⟨_, hD', fun es n q => by cases q⟩
    · exact hd b hb⟩

theorem EvF.comp (hi : Itr T n env Γ iter items fl) (hc : CompScope scope env x)
    (hv : ∀ q ∈ Γv, q ∈ Γ ∧ scope.names.lookup q.1 = some .free) (hok : GmOk (x :: Γv.map (·.1))) (hz : items.length ≤ sizeLine)
    (htest : ∀ C cl d, d ∈ items → CTests T n (compEnvC scope cl C env) (compG x fl Γv d) ifs (p d)) (helt : ∀ C cl d, d ∈ items → p d = true → EvF T n (compEnvC scope cl C env) (compG x fl Γv d) elt (f d)) :
    EvF T n env Γ (.ListComp elt [⟨.Name x px, iter, ifs, 0⟩] scope pos) (.list ((items.filter p).map f)) :=
  EvF.compC hi hc hv hok hz htest fun C cl d h1 h2 => Ev.ofF (helt C cl d h1 h2)

theorem Frm.but {N : Nat} {s₀ s : Shared} {m cm : Str → Option Value} {C : Addr} {h' : Heap} (F : Frm N s₀ env m cm s) (hs : Heap.SameBut C s.heap h') (h0 : s₀.heap.get? C = none) (hL : env.locals ≠ C) (hc : ∀ y c, env.cells.lookup y = some c → c ≠ C) :
    Frm N s₀ env m cm { s with heap := h' } := by
  refine ⟨?_, fun b o e => ?_, F.ns.sameBut hs hL, fun y c hy => (F.cell y c hy).sameBut hs (hc y c hy), F.newL, F.newC, F.apart⟩
  · obtain ⟨h, tk, rfl⟩ := F.same; exact ⟨h', tk, rfl⟩
  · obtain ⟨sl, e1, f1⟩ := F.keep b o e
    exact ⟨sl, (hs.2 b fun q => by rw [q, h0] at e; cases e).trans e1, f1⟩
end
section
variable {T : St} {s₀ s s₁ : Shared} {d₀ : Addr → Prop} {env : Env} {own own' : Own} {Γ Γ' : Gm}
theorem SI.storeC {C : Addr} {A : Around} {E : Value → Shared → Prop} {Q : Unit → Shared → Prop} {x : Str} {val : Value} {sl : Slot} (S : SI T s₀ d₀ env own Γ s) (k : Kp T.N s s₁) (hp : Put Γ x sl Γ') (hk : env.kindOf x = some .local ∨ env.kindOf x = some .cell)
    (ho : ∀ y, y ≠ x → own' y = own y) (hnew : ∀ a, own' x = some a → s.heap.get? a = none ∧ ∃ o, s₁.heap.get? a = some o ∧ (o.dict = none ∧ ∀ vs, o.data ≠ .fields vs) ∧ o.cls ≠ .type "tuple" ∧ o.cls ≠ .type "frame")
    (sC : s.heap.get? C = none) (hCn : NotTup s₁.heap C) (hCo : ∀ a, own' x = some a → a ≠ C) (hslb : ∀ v, sl ≠ some (v, .b) ∧ ∀ x, sl ≠ some (v, .s x)) (hslc : ∀ v, sl = some (v, .c) → RepV T.w (fun a => regOf d₀ env own' .c a ∧ a ≠ C) s₁.heap val v)
    (hslo : ∀ v, sl = some (v, .o) → ∃ d a as, v = .d d ∧ val = .ref a ∧ own' x = some a ∧ Reads s₁.heap val d (a :: as) ∧ (∀ b ∈ as, regOf d₀ env own' .c b ∧ b ≠ C) ∧ Dok T.w s₁.heap (a :: as))
    (h : ∀ s', (∀ m, s₁.heap.Ns C m → s'.heap.Ns C m) → (∀ h'', Heap.SameBut C s'.heap h'' → SI T s₀ d₀ env own' Γ' { s' with heap := h'' } ∧ Pres T.N env own s { s' with heap := h'' } ∧ OwnLe own own' s) → Q () s') : wpAny T.M A (storeName env x val) Q E s₁ := by
  have S₁ := S.kp k
  obtain ⟨m, cm, F, hnm⟩ := S.frm
  refine store_wp (F.kp k) S.eok S.cok hk fun s' m' cm' F' hlx hly hsame hchg₀ halive => ?_
  have fC := S.fresh sC
  refine h s' (fun m hm => ?_) fun h'' hbut => ?_
  · obtain ⟨o, es, ep, ho', r⟩ := hm
    obtain ⟨o', e, _, _, ed⟩ := hchg₀.gets ho' (by rintro (q | ⟨y, q⟩); exact fC.2.1 q; exact fC.2.2.1 y C q rfl)
    exact ⟨o', es, ep, e, ed.trans r.1, r.2⟩
  have hchg : ChgH T.N (fun b => (b = env.locals ∨ ∃ y, env.cells.lookup y = some b) ∨ b = C) s₁.heap h'' := (hchg₀.mono fun b hb => .inl hb).trans (ChgH.of_but hbut) fun b o _ hb => .inr hb
  have hle : ∀ a, s.heap.get? a ≠ none → (∀ y, own y ≠ some a) → ∀ y, own' y ≠ some a := fun a ha hy y q => by
    by_cases hyx : y = x
    · subst hyx; exact ha (hnew a q).1
    · rw [ho y hyx] at q; exact hy y q
  have chg : ChgH T.N (fun b => b = env.locals ∨ ∃ y, env.cells.lookup y = some b) s.heap h'' := (ChgH.of_kp k.h).trans hchg fun b o e hb => hb.elim id fun q => absurd e (by rw [q, sC]; simp)
  have ntup : ∀ z, ((z = env.locals ∨ ∃ y, env.cells.lookup y = some z) ∨ z = C) → NotTup s₁.heap z := fun z hz => hz.elim (fun hz => May.notTup S₁ z (hz.elim .inl fun q => .inr (.inl q))) fun q => q ▸ hCn
  have regUp : ∀ (fl : Fl) (a : Addr), (regOf d₀ env own fl a ∧ s.heap.get? a ≠ none) → regOf d₀ env own' fl a
    | .o, _, _ => trivial
    | .s _, _, _ => trivial
    | .b, a, r => ⟨r.1.1, r.1.2.1, hle a r.2 r.1.2.2⟩
    | .c, a, r => ⟨r.1.1, r.1.2.1, r.1.2.2.1, hle a r.2 r.1.2.2.2⟩
  have notX : ∀ (fl : Fl), fl ≠ .o → (∀ x, fl ≠ .s x) → ∀ a, (regOf d₀ env own' fl a ∧ a ≠ C) → ¬ ((a = env.locals ∨ ∃ y, env.cells.lookup y = some a) ∨ a = C) := fun fl hfl hfs a ⟨hr, hac⟩ hor => by
    refine hor.elim ?_ hac
    cases fl with
    | o => exact absurd rfl hfl
    | s x => exact absurd rfl (hfs x)
    | b => rintro (q | ⟨y, q⟩); exact hr.1 q; exact hr.2.1 y a q rfl
    | c => rintro (q | ⟨y, q⟩); exact hr.2.1 q; exact hr.2.2.1 y a q rfl
  have owned : ∀ z a, own' z = some a → a ≠ env.locals ∧ (∀ y c, env.cells.lookup y = some c → a ≠ c) ∧ s₀.heap.get? a = none ∧ ∃ o, s₁.heap.get? a = some o ∧ (o.dict = none ∧ ∀ vs, o.data ≠ .fields vs) ∧ o.cls ≠ .type "tuple" ∧ o.cls ≠ .type "frame" := fun z a q => by
    by_cases hz : z = x
    · subst hz
      obtain ⟨e1, e2⟩ := hnew a q
      have := S.fresh e1
      exact ⟨this.2.1, this.2.2.1, F.keep.none e1, e2⟩
    · rw [ho z hz] at q
      obtain ⟨h1, h2, h3, h4⟩ := S₁.ownNew z a q
      exact ⟨h2, h3, h1, h4⟩
  have ownC : ∀ z a, own' z = some a → a ≠ C := fun z a q => by
    by_cases hz : z = x
    · subst hz; exact hCo a q
    · rw [ho z hz] at q
      obtain ⟨_, _, _, o, h4, _⟩ := S.ownNew z a q
      intro e; rw [e, sC] at h4; cases h4
  have sNC : ∀ a, s.heap.get? a ≠ none → a ≠ C := fun a ha q => ha (q ▸ sC)
  have F'' : Frm T.N s₀ env m' cm' { s' with heap := h'' } := F'.but hbut (F.keep.none sC) (Ne.symm fC.2.1) fun y c hc q => fC.2.2.1 y c hc q.symm
  refine ⟨⟨S.eok, S.cok, by rw [hp.names]; exact S.ok, S.wd0, S.d0, fun z a q => ?_, fun z y a q r => ?_, m', cm', F'', fun y v fl hm => ?_⟩, ⟨?_, ?_, fun b e => ?_⟩, fun y a q => ?_⟩
  · obtain ⟨h1, h2, h3, o, h4, h5, h6, h7⟩ := owned z a q
    exact ⟨h3, h1, h2, o, hchg.plain h4 (fun hx => hx.elim (fun hx => hx.elim (fun e => h1 e) fun ⟨y, e⟩ => h2 y a e rfl) (ownC z a q)) h7, h5, h6, h7⟩
  · by_cases hz : z = x <;> by_cases hy : y = x
    · rw [hz, hy]
    · subst hz
      rw [ho y hy] at r
      obtain ⟨_, _, _, o, h4, _⟩ := S.ownNew y a r
      rw [(hnew a q).1] at h4; cases h4
    · subst hy
      rw [ho z hz] at q
      obtain ⟨_, _, _, o, h4, _⟩ := S.ownNew z a q
      rw [(hnew a r).1] at h4; cases h4
    · rw [ho z hz] at q; rw [ho y hy] at r; exact S.ownInj z y a q r
  · rcases hp.cases S.ok.nodup y _ hm with ⟨rfl, e⟩ | ⟨hyx, hm⟩
    · refine ⟨val, hlx, ?_⟩
      cases fl with
      | c => exact (RepV.chg (hslc v e.symm) hchg ntup (notX .c (by simp) (by simp))).mono fun a ha => ha.1
      | b => exact absurd e.symm (hslb v).1
      | s x => exact absurd e.symm ((hslb v).2 x)
      | o =>
        obtain ⟨d, a, as, e1, e2, e3, e4, e5, e6⟩ := hslo v e.symm
        have hna : ∀ b ∈ a :: as, ¬ ((b = env.locals ∨ ∃ y, env.cells.lookup y = some b) ∨ b = C) := fun b hb => by
          rcases List.mem_cons.mp hb with rfl | hb
          · have := owned _ b e3
            rintro ((q | ⟨y, q⟩) | q); exact this.1 q; exact this.2.1 y b q rfl; exact hCo b e3 q
          · exact notX .c (by simp) (by simp) b (e5 b hb)
        exact ⟨d, a, as, e1, e2, e3, reads_chg hchg ntup e4 hna, fun b hb => (e5 b hb).1, e6.chg hchg hna⟩
    · obtain ⟨val', l, r⟩ := hnm y v fl hm
      refine ⟨val', hly y val' hyx l, ?_⟩
      cases fl with
      | c => exact (RepV.chg (((RepV.there r).mono fun a ha => ⟨regUp .c a ha, sNC a ha.2⟩).keeps k.h) hchg ntup (notX .c (by simp) (by simp))).mono fun a ha => ha.1
      | b => exact (RepV.chg (((RepV.there r).mono fun a ha => ⟨regUp .b a ha, sNC a ha.2⟩).keeps k.h) hchg ntup (notX .b (by simp) (by simp))).mono fun a ha => ha.1
      | o =>
        obtain ⟨d, a, as, e1, e2, e3, e4, e5, e6⟩ := r
        have e5' : ∀ b ∈ as, regOf d₀ env own' .c b := fun b hb => regUp .c b ⟨e5 b hb, by obtain ⟨o, e, _⟩ := e6 b (.tail _ hb); rw [e]; simp⟩
        have e5c : ∀ b ∈ as, b ≠ C := fun b hb => sNC b (by obtain ⟨o, e, _⟩ := e6 b (.tail _ hb); rw [e]; simp)
        have hna : ∀ b ∈ a :: as, ¬ ((b = env.locals ∨ ∃ y, env.cells.lookup y = some b) ∨ b = C) := fun b hb => by
          rcases List.mem_cons.mp hb with rfl | hb
          · have := owned y b (by rw [ho y hyx]; exact e3)
            rintro ((q | ⟨y, q⟩) | q); exact this.1 q; exact this.2.1 y b q rfl; exact ownC y b (by rw [ho y hyx]; exact e3) q
          · exact notX .c (by simp) (by simp) b ⟨e5' b hb, e5c b hb⟩
        exact ⟨d, a, as, e1, e2, by rw [ho y hyx]; exact e3, reads_chg hchg ntup (reads_kp k.h e4) hna, e5', (e6.keeps k.h).chg hchg hna⟩
      | s _ =>
        have hchg' : ChgH T.N (fun b => (b = env.locals ∨ ∃ y, env.cells.lookup y = some b) ∨ b = C) s.heap h'' := (ChgH.of_kp k.h).trans hchg fun _ _ _ hb => hb
        have ntup' : ∀ z, ((z = env.locals ∨ ∃ y, env.cells.lookup y = some z) ∨ z = C) → NotTup s.heap z := fun z hz => hz.elim (fun hz => May.notTup S z (hz.elim .inl fun q => .inr (.inl q))) fun q o vs n e => by rw [q, sC] at e; cases e
        refine InstOwn.chg r hchg' ntup' (fun b hb hn => ⟨regUp .c b ⟨hb, hn⟩, notX .c (by simp) (by simp) b ⟨regUp .c b ⟨hb, hn⟩, sNC b hn⟩⟩) (fun z b q hz => ?_)
        have hzx : z ≠ x := by
          rcases hz with rfl | hz
          · exact hyx
          · rintro rfl; rcases hk with hk | hk <;> rw [hk] at hz <;> cases hz
        have q' : own' z = some b := by rw [ho z hzx]; exact q
        have hw := owned z b q'
        exact ⟨q', by rintro ((e | ⟨y, e⟩) | e); exact hw.1 e; exact hw.2.1 y b e rfl; exact ownC z b q' e⟩
  · obtain ⟨h₁, tk, rfl⟩ := hsame
    obtain ⟨h₂, tk₂, rfl, _⟩ := k
    exact ⟨_, _, rfl⟩
  · exact chg.mono fun b hb => hb.elim .inl fun q => .inr (.inl q)
  · by_cases hb : b = C
    · rw [hb]; exact sC
    · exact k.h.none (halive b ((hbut.2 b hb).symm.trans e))
  · by_cases hyx : y = x
    · subst hyx; exact .inr (hnew a q).1
    · rw [ho y hyx] at q; exact .inl ⟨y, q⟩
end

section
variable {T : St} {n : Nat} {env : Env} {Γ Γ' Γv : Gm} {elt iter : PySem.Expr} {x y : Str} {px py pos spos : Pos} {ifs : List PySem.Expr} {scope : Scope} {items : List PyData} {fl : Fl} {f : PyData → PyData} {p : PyData → Bool} {Q : Fw → Gm → Prop}
theorem Ex1.assignComp {fl' : Fl} (hfl : fl' = .c ∨ fl' = .o) (hi : Itr T n env Γ iter items fl) (hc : CompScope scope env x)
    (hv : ∀ q ∈ Γv, q ∈ Γ ∧ scope.names.lookup q.1 = some .free) (hok : GmOk (x :: Γv.map (·.1))) (hz : items.length ≤ sizeLine)
    (htest : ∀ C cl d, d ∈ items → CTests T n (compEnvC scope cl C env) (compG x fl Γv d) ifs (p d)) (helt : ∀ C cl d, d ∈ items → p d = true → EvF T n (compEnvC scope cl C env) (compG x fl Γv d) elt (f d))
    (hp : Put Γ y (some (.d (.list ((items.filter p).map f)), fl')) Γ') (hk : env.kindOf y = some .local ∨ env.kindOf y = some .cell) (hsw : swapsWith (.ListComp elt [⟨.Name x px, iter, ifs, 0⟩] scope pos) (some (.Name y py)) spos.line env = pure true) (hq : Q .next Γ') :
    Ex1 T n env Γ (.Assign [.Name y py] (.ListComp elt [⟨.Name x px, iter, ifs, 0⟩] scope pos) spos) Q := ⟨fun {A s₀ d₀ own s E QQ} hA S h hx => by
  have hmain : ∀ D C s', Kp T.N s s' → D ≠ C → s.heap.get? D = none → s.heap.get? C = none → (∃ m, s'.heap.Ns C m) → (∃ ys k, s'.heap.get? D = some { cls := .type "list", data := .seq (List.toArray ys) k } ∧ RepAll T.w (fun a => regOf d₀ env own .c a ∧ a ≠ C ∧ a ≠ D) s'.heap ys ((items.filter p).map f)) →
      compPost T.M A E (some (PySem.assign (PySem.Expr.Name y py) env)) (fun _ s' => QQ .next s') (.ref D) C (.ok .next) s' := by
    intro D C s' k hDC sD sC hns hD
    obtain ⟨m, hns⟩ := hns
    obtain ⟨ys, kk, hDl, hall⟩ := hD
    show wpAny _ A (PySem.assign (PySem.Expr.Name y py) env (.ref D)) _ _ _
    obtain ⟨as, r, hr, hd⟩ := hall
    have hDok : Dok T.w s'.heap (D :: as) := fun b hb => by
      rcases List.mem_cons.mp hb with rfl | hb
      · exact ⟨_, hDl, fun es n q => by cases q⟩
      · exact hd b hb
    have hread : Reads s'.heap (.ref D) (.list ((items.filter p).map f)) (D :: as) := .list hDl rfl rfl (by simpa using r)
    have fin : ∀ own', (∀ z, z ≠ y → own' z = own z) → (own' y = none ∨ own' y = some D) → (∀ v, some (Vl.d (.list ((items.filter p).map f)), fl') ≠ some (v, .b)) →
        (∀ v, some (Vl.d (.list ((items.filter p).map f)), fl') = some (v, .c) → RepV T.w (fun a => regOf d₀ env own' .c a ∧ a ≠ C) s'.heap (.ref D) v) →
        (∀ v, some (Vl.d (.list ((items.filter p).map f)), fl') = some (v, .o) → ∃ d a as, v = .d d ∧ Value.ref D = .ref a ∧ own' y = some a ∧ Reads s'.heap (.ref D) d (a :: as) ∧ (∀ b ∈ as, regOf d₀ env own' .c b ∧ b ≠ C) ∧ Dok T.w s'.heap (a :: as)) →
        wpAny T.M A (PySem.assign (.Name y py) env (.ref D)) (fun _ s'' => ∃ m, s''.heap.Ns C m ∧ ∀ h', Heap.SameBut C s''.heap h' → QQ .next { s'' with heap := h' }) E s' := fun own' ho1 ho2 hb1 hc1 hd1 => by
      refine wpAny_assign_Name (S.storeC (C := C) (own' := own') k hp hk ho1 (fun a e => ?_) sC (ns_notTup hns) (fun a e => ?_) (fun v => ⟨hb1 v, fun _ q => by rcases hfl with rfl | rfl <;> cases q⟩) hc1 hd1 fun s'' hns' hfin => ⟨m, hns' m hns, fun h' hs' => ?_⟩)
      · rcases ho2 with q | q <;> rw [q] at e <;> cases e
        exact ⟨sD, _, hDl, ⟨rfl, fun vs q => by cases q⟩, by simp, by simp⟩
      · rcases ho2 with q | q <;> rw [q] at e <;> cases e
        exact hDC
      · obtain ⟨S', p', o'⟩ := hfin h' hs'
        exact h _ .next _ Γ' own' S' p' o' trivial hq
    rcases hfl with rfl | rfl
    · refine fin (fun z => if z = y then none else own z) (fun z hz => by simp [hz]) (.inl (by simp)) (fun v e => by cases e) (fun v e => ?_) fun v e => by cases e
      cases e
      have up : ∀ a, regOf d₀ env own .c a → regOf d₀ env (fun z => if z = y then none else own z) .c a := regOf_le (fun a ha z => by by_cases hz : z = y <;> simp [hz, ha z]) .c
      refine ⟨D :: as, hread, fun b hb => ?_, hDok⟩
      rcases List.mem_cons.mp hb with rfl | hb
      · exact ⟨up _ (S.fresh sD), hDC⟩
      · exact ⟨up _ (hr b hb).1, (hr b hb).2.1⟩
    · refine fin (fun z => if z = y then some D else own z) (fun z hz => by simp [hz]) (.inr (by simp)) (fun v e => by cases e) (fun v e => by cases e) fun v e => ?_
      cases e
      refine ⟨_, D, as, rfl, rfl, by simp, hread, fun b hb => ⟨⟨(hr b hb).1.1, (hr b hb).1.2.1, (hr b hb).1.2.2.1, fun z q => ?_⟩, (hr b hb).2.1⟩, hDok⟩
      by_cases hz : z = y
      · simp [hz] at q; exact (hr b hb).2.2 q.symm
      · simp [hz] at q; exact (hr b hb).1.2.2.2 z q
  rw [exec_Assign_Name_used _ _ _ _ hsw]
  refine wpAny_bind (wpAny_standAt (wpAny_bind ?_))
  show wpAny _ A (do let _ ← comprehension (.ListComp elt [⟨.Name x px, iter, ifs, 0⟩] scope pos) scope env (firstIterPos [⟨.Name x px, iter, ifs, 0⟩] pos) (newList []) false (eval iter env) (some (PySem.assign (PySem.Expr.Name y py) env))) _ _ s
  have core : wpAny T.M A (comprehension (.ListComp elt [⟨.Name x px, iter, ifs, 0⟩] scope pos) scope env (firstIterPos [⟨.Name x px, iter, ifs, 0⟩] pos) (newList []) false (eval iter env) (some (PySem.assign (PySem.Expr.Name y py) env))) (fun _ s' => QQ .next s') E s := by
    refine comp_core hi hc hv hok hz htest (fun C cl d h1 h2 => Ev.ofF (helt C cl d h1 h2)) hA S.rd fun D C s' k hDC sD sC hns hD => ?_
    exact hmain D C s' k hDC sD sC hns hD
  exact wpAny_bind (wpAny_mono core (fun _ s' hq' => wpAny_pure (wpAny_pure hq')) fun _ _ e => e)⟩
end
end Mine
end
section
open PySem PySem.Calls PyProof.Rows PySem.W
set_option linter.all false
namespace Mine

def mkS (l : List Nat) : Str := ⟨l.toArray⟩
theorem mkS_cps (l : List Nat) : (mkS l).cps.toList = l := rfl
theorem mkS_len (l : List Nat) : (mkS l).length = l.length := by simp [mkS, Str.length]
theorem mkS_app (a b : List Nat) : mkS a ++ mkS b = mkS (a ++ b) := by
  show Str.mk (a.toArray ++ b.toArray) = Str.mk (a ++ b).toArray
  simp
theorem mkS_inj {a b : List Nat} : mkS a = mkS b ↔ a = b := ⟨fun h => by have := congrArg (fun x : Str => x.cps.toList) h; exact this, fun h => by rw [h]⟩

section
variable {T : St} {n : Nat} {env : Env} {Γ : Gm} {f₁ f₂ : Fl}
theorem EvF.kS {x : Str} {k : Nat} {pos : Pos} : EvF T n env Γ (.Constant (.str x) k pos) (.str (mkS x.cps.toList)) := EvF.kStr
theorem EvF.globS {x : Str} {pos : Pos} {y : Str} {t : Tok} (hx : env.kindOf x = some .globalImplicit) (hg : T.mg x = some (.str y t)) (hd : (x == ("__debug__" : Str)) = false) : EvF T n env Γ (.Name x pos) (.str (mkS y.cps.toList)) := EvF.glob hx hg hd
theorem Bin.catS {a b : List Nat} (hz : a.length + b.length ≤ sizeLine) : Bin T n .Add (.d (.str (mkS a))) f₁ (.d (.str (mkS b))) f₂ (.str (mkS (a ++ b))) := by
  rw [← mkS_app]; exact Bin.addS (by rw [mkS_len, mkS_len]; exact hz)
theorem Bin.modP {a b : Int} (hb : 0 < b) : Bin T n .Mod (.d (.int a)) f₁ (.d (.int b)) f₂ (.int (a % b)) := by
  rw [← Int.fmod_eq_emod_of_nonneg a (by omega)]; exact Bin.modI (by omega)
theorem Bin.divP {a b : Int} (hb : 0 < b) (hs : b < 1073741824) : Bin T n .FloorDiv (.d (.int a)) f₁ (.d (.int b)) f₂ (.int (a / b)) := by
  rw [← Int.fdiv_eq_ediv_of_nonneg a (by omega)]; exact Bin.divI (by omega) (PyProof.noPylong_small (by omega))
theorem Bin.mulR {a b : Int} (h1 : -(2 ^ 64) < b) (h2 : b < 2 ^ 64) : Bin T n .Mult (.d (.int a)) f₁ (.d (.int b)) f₂ (.int (a * b)) := Bin.mulI (IntMulOk.of_right (intBits_le_64 h1 h2))
theorem Bin.mulL {a b : Int} (h1 : -(2 ^ 64) < a) (h2 : a < 2 ^ 64) : Bin T n .Mult (.d (.int a)) f₁ (.d (.int b)) f₂ (.int (a * b)) := Bin.mulI (IntMulOk.of_left (intBits_le_64 h1 h2))
theorem Cmp.eqL {a b : List Nat} : Cmp T n .Eq (.d (.str (mkS a))) (.d (.str (mkS b))) (decide (a = b)) := by
  have : decide (a = b) = decide (mkS a = mkS b) := decide_eq_decide.mpr mkS_inj.symm
  rw [this]; exact Cmp.eqS
theorem Cmp.neL {a b : List Nat} : Cmp T n .NotEq (.d (.str (mkS a))) (.d (.str (mkS b))) (!decide (a = b)) := by
  have : (!decide (a = b)) = decide (mkS a ≠ mkS b) := by
    rw [Bool.eq_iff_iff]
    simp [mkS_inj]
  rw [this]; exact Cmp.neS
theorem contains_one (l : List Nat) (c : Nat) : Txt.contains (mkS l) (mkS [c]) = decide (c ∈ l) := StrLaws.found_one (mkS l) c
theorem Cmp.inL {a b : List Nat} {c : Nat} (h : a = [c]) : Cmp T n .In (.d (.str (mkS a))) (.d (.str (mkS b))) (decide (c ∈ b)) := by
  rw [h, ← contains_one]; exact Cmp.inS
theorem Cmp.ninL {a b : List Nat} {c : Nat} (h : a = [c]) : Cmp T n .NotIn (.d (.str (mkS a))) (.d (.str (mkS b))) (!decide (c ∈ b)) := by
  rw [h, ← contains_one]; exact Cmp.ninS
theorem Sub.strL {fl : Fl} {l : List Nat} {i : Int} {c : Nat} (h0 : 0 ≤ i) (hc : l[i.toNat]? = some c) (hz : l.length ≤ sizeLine) : Sub T n (.d (.str (mkS l))) fl (.d (.int i)) (.str (mkS [c])) .c := Sub.str h0 hc (by rw [mkS_len]; exact hz)

structure Opt (T : St) (n : Nat) (env : Env) (Γ : Gm) (e : Option PySem.Expr) (i : Option Int) : Prop where
  run : ∀ {A : Around} {reg : Fl → Addr → Prop} {s : Shared} {E : Value → Shared → Prop} {Q : Value → Shared → Prop}, Amb n A → Rd T env reg Γ s → (∀ v s', Kp T.N s s' → IsPart v i → Q v s') → wpAny T.M A (valueOrNone (evalOpt e env)) Q E s
theorem Opt.none : Opt T n env Γ none none := ⟨fun hA R h => wpAny_pure (h _ _ (.refl _) .none)⟩
theorem Opt.some {e : PySem.Expr} {i : Int} {fl : Fl} (x : Ev T n env Γ e (.d (.int i)) fl) : Opt T n env Γ (some e) (some i) := ⟨fun hA R h => x.run hA R fun v s' k r => by
  obtain ⟨t, rfl⟩ := Rep.int_inv r
  exact h _ _ k (.int i t)⟩
theorem part_tok {v : Value} {i : Option Int} (h : IsPart v i) : ∃ o : Option (Int × Tok), partValue o = v ∧ o.map (·.1) = i := by
  cases h with
  | none => exact ⟨Option.none, rfl, rfl⟩
  | int i t => exact ⟨Option.some (i, t), rfl, rfl⟩
theorem EvF.cutS {e : PySem.Expr} {l u : Option PySem.Expr} {p pos : Pos} {x : List Nat} {fl : Fl} {lo hi : Option Int} (he : Ev T n env Γ e (.d (.str (mkS x))) fl) (hl : Opt T n env Γ l lo) (hu : Opt T n env Γ u hi) (hz : x.length ≤ sizeLine) :
    EvF T n env Γ (.Subscript e (.Slice l u none p) pos) (.str (mkS (pyCut lo hi x))) := ⟨fun {A reg s E Q} hA R h => by
  refine Subscript_ (he.run hA R fun ov s₁ k₁ r₁ => ?_)
  obtain ⟨t, rfl⟩ := Rep.str_inv r₁
  rw [arm_eval_Slice]
  refine wpAny_bind (hl.run hA (R.kp k₁) fun vl s₂ k₂ pl => wpAny_bind (wpAny_holding (hu.run hA ((R.kp k₁).kp k₂) fun vu s₃ k₃ pu => wpAny_bind (wpAny_holding (wpAny_pure ?_)))))
  refine wpAny_newObj_type ?_
  obtain ⟨ol, e1, e2⟩ := part_tok pl
  obtain ⟨ou, e3, e4⟩ := part_tok pu
  refine tail_any (typeIs_str _ _ _) F.slot_str_getitem.lookup (wpAny_getItem_str_slice (l := ol) (u := ou) (st := Option.none) ⟨_, Heap.get?_push_size _ rfl, rfl, by rw [e1, e3]; rfl⟩ rfl ?_) rfl
  refine post_val_or_str ?_
  have hs := slice_cut (mkS x) lo hi
  rw [← e2, ← e4] at hs
  have hs' : (if ((1 : Int) == 1 && (slicePicked (mkS x) ol ou Option.none).length == (mkS x).length) = true then mkS x else ⟨((slicePicked (mkS x) ol ou Option.none).filterMap ((mkS x).cps[·]?)).toArray⟩) = mkS (pyCut lo hi x) := by rw [← e2, ← e4]; exact hs
  rw [show ((Option.map (fun x : Int × Tok => x.1) (Option.none : Option (Int × Tok))).getD 1 == 1) = ((1 : Int) == 1) from rfl, hs']
  refine ⟨?_, fun t' k => h _ _ ((k₁.trans (k₂.trans k₃)).trans (.mk ((KpH.refl _).push _))) (repF_str ..)⟩
  rw [mkS_len]
  unfold pyCut
  simp only [List.length_take, List.length_drop]
  omega⟩

theorem pyCut_le {α : Type} (lo hi : Option Int) (l : List α) : (pyCut lo hi l).length ≤ l.length := by
  unfold pyCut; simp only [List.length_take, List.length_drop]; omega
theorem RepAll.cut {w : World} {R : Addr → Prop} {h : Heap} {vs : List Value} {ds : List PyData} (x : RepAll w R h vs ds) (lo hi : Option Int) : RepAll w R h (pyCut lo hi vs) (pyCut lo hi ds) := by
  unfold pyCut
  rw [x.length]
  exact (x.drop _).take _
theorem EvF.cutL {e : PySem.Expr} {l u : Option PySem.Expr} {p pos : Pos} {xs : List PyData} {fl : Fl} {lo hi : Option Int} (he : Ev T n env Γ e (.d (.list xs)) fl) (hl : Opt T n env Γ l lo) (hu : Opt T n env Γ u hi) (hz : xs.length ≤ sizeLine) (hc : fl = .c ∨ stillAll xs = true) :
    EvF T n env Γ (.Subscript e (.Slice l u none p) pos) (.list (pyCut lo hi xs)) := ⟨fun {A reg s E Q} hA R h => by
  refine Subscript_ (he.run hA R fun ov s₁ k₁ r₁ => ?_)
  obtain ⟨a, vs, rfl, hR, hlist, hall⟩ := Rep.list_inv r₁
  have hall : RepAll T.w (reg .c) s₁.heap vs xs := by
    rcases hc with rfl | hc
    · exact hall
    · exact hall.still hc
  rw [arm_eval_Slice]
  refine wpAny_bind (hl.run hA (R.kp k₁) fun vl s₂ k₂ pl => wpAny_bind (wpAny_holding (hu.run hA ((R.kp k₁).kp k₂) fun vu s₃ k₃ pu => wpAny_bind (wpAny_holding (wpAny_pure ?_)))))
  have k₁₃ := k₁.trans (k₂.trans k₃)
  have hlist₃ := (k₂.trans k₃).h.list hlist
  refine wpAny_newObj_type ?_
  refine tail_any (Heap.IsList.typeIs (s := { s₃ with heap := s₃.heap.push { cls := .type "slice", data := .fields #[vl, vu, .none] } }) (hlist₃.push _)) list_getitem_lookup (wpAny_getItem_list_slice (hlist₃.push _) (Heap.IsSliceOf.new ..) pl pu .none (by simp) ?_ (by rw [List.size_toArray, hall.length]; exact hz)) rfl
  rw [slicePick_cut]
  have kp : KpH T.N s₁.heap (s₃.heap.push { cls := .type "slice", data := .fields #[vl, vu, .none] }) := (k₂.trans k₃).h.push _
  refine h _ _ (k₁₃.trans (.mk (((KpH.refl _).push _).push _))) (((repF_listP (s := { s₃ with heap := s₃.heap.push { cls := .type "slice", data := .fields #[vl, vu, .none] } }) (fun b hb => ((R.regs.kp k₁.h).kp kp).fresh .c b hb) ((hall.keeps kp).cut lo hi)).older kp).older k₁.h)⟩
theorem Bin.catL {xs ys : List PyData} (hz : xs.length + ys.length ≤ sizeLine) (h₁ : f₁ = .c ∨ stillAll xs = true) (h₂ : f₂ = .c ∨ stillAll ys = true) : Bin T n .Add (.d (.list xs)) f₁ (.d (.list ys)) f₂ (.list (xs ++ ys)) := ⟨fun {A reg s E Q a b} hA R W r₁ r₂ h => by
  obtain ⟨a, vs, rfl, _, hl₁, hall₁⟩ := Rep.list_inv r₁
  obtain ⟨b, us, rfl, _, hl₂, hall₂⟩ := Rep.list_inv r₂
  have hall₁ : RepAll T.w (reg .c) s.heap vs xs := by
    rcases h₁ with rfl | hc
    · exact hall₁
    · exact hall₁.still hc
  have hall₂ : RepAll T.w (reg .c) s.heap us ys := by
    rcases h₂ with rfl | hc
    · exact hall₂
    · exact hall₂.still hc
  obtain ⟨⟨c1, d1, dt1, sl1⟩, ho1, hc1, n1, hd1⟩ := id hl₁
  obtain ⟨⟨c2, d2, dt2, sl2⟩, ho2, hc2, n2, hd2⟩ := id hl₂
  simp only at hc1 hd1 hc2 hd2
  subst hc1 hd1 hc2 hd2
  refine concat_meets ⟨_, ho1, rfl⟩ ⟨_, ho2, rfl⟩ noFill_list_add seq_list_add PySem.F.slot_list_add PySem.F.entry_list_add (PySem.F.args_list_add_2 _ _) (list_addW a b vs.toArray us.toArray n1 n2 d1 d2 sl1 sl2 (by simpa [hall₁.length, hall₂.length] using hz)) ⟨ho1, ho2, ?_⟩
  rw [show vs.toArray ++ us.toArray = (vs ++ us).toArray from by simp]
  exact h _ _ (.push _ _) (repF_listP (fun b => R.fresh .c b) (hall₁.append hall₂))⟩

theorem CallB.lenS {l : List Nat} {fl : Fl} (hz : l.length ≤ sizeLine) : CallB T n (.builtin "len") [(.d (.str (mkS l)), fl)] (.int l.length) := ⟨fun {A reg s E Q vals} hA R W r h => by
  cases r with
  | cons r1 r2 =>
    cases r2
    obtain ⟨t, rfl⟩ := Rep.str_inv r1
    refine P.len_str (by rw [mkS_len]; have : sizeLine = 2 ^ 24 := rfl; omega) ?_
    rw [mkS_len]
    exact h _ _ (.tok _ _) (repF_int ..)⟩
theorem CallB.lenL {xs : List PyData} {fl : Fl} (hz : xs.length ≤ sizeLine) : CallB T n (.builtin "len") [(.d (.list xs), fl)] (.int xs.length) := ⟨fun {A reg s E Q vals} hA R W r h => by
  cases r with
  | cons r1 r2 =>
    cases r2
    obtain ⟨a, vs, rfl, _, hl, hall⟩ := Rep.list_inv r1
    have hlen : vs.toArray.size = xs.length := by rw [List.size_toArray]; exact hall.length
    refine call_len_list hl (by rw [hlen]; have : sizeLine = 2 ^ 24 := rfl; omega) ?_
    rw [hlen]
    exact h _ _ (.tok _ _) (repF_int ..)⟩
def decS (i : Int) : List Nat := (Str.ofString (toString i)).cps.toList
theorem CallB.strI {i : Int} {fl : Fl} (h0 : 0 ≤ i) (h1 : i < 10000) : CallB T n (.type "str") [(.d (.int i), fl)] (.str (mkS (decS i))) := ⟨fun {A reg s E Q vals} hA R W r h => by
  cases r with
  | cons r1 r2 =>
    cases r2
    obtain ⟨t, rfl⟩ := Rep.int_inv r1
    refine P.str_of_int ?_ (h _ _ (.tok _ _) (repF_str ..))
    by_cases hz : i.natAbs = 0
    · rw [hz]; decide
    · have : i.natAbs < 2 ^ 1920 := Nat.lt_trans (show i.natAbs < 10000 by omega) (by decide +kernel)
      exact (Nat.log2_lt hz).mpr this⟩
theorem CallB.intB {b : Bool} {fl : Fl} : CallB T n (.type "int") [(.d (.bool b), fl)] (.int (if b then 1 else 0)) := ⟨fun {A reg s E Q vals} hA R W r h => by
  cases r with
  | cons r1 r2 =>
    cases r2
    rw [Rep.bool_inv r1]
    exact call_int_bool (h _ _ (.tok _ _) (repF_int ..))⟩
theorem CallB.intS {l : List Nat} {fl : Fl} (hd : NumText.AllDigits l) (hne : l ≠ []) (hz : l.length ≤ 640) : CallB T n (.type "int") [(.d (.str (mkS l)), fl)] (.int (NumText.digitsVal l : Nat)) := ⟨fun {A reg s E Q vals} hA R W r h => by
  cases r with
  | cons r1 r2 =>
    cases r2
    obtain ⟨t, rfl⟩ := Rep.str_inv r1
    exact KIN.call_text (intText_digits (x := mkS l) hd hne (by rw [mkS_len]; omega)) (by rw [mkS_len]; exact hz) (h _ _ (.tok _ _) (repF_int ..))⟩

structure IsA (T : St) (n : Nat) (v : Vl) (ty : String) (b : Bool) : Prop where
  run : ∀ {A : Around} {R : Addr → Prop} {s : Shared} {E : Value → Shared → Prop} {Q : Value → Shared → Prop} {x : Value}, Amb n A → RepV T.w R s.heap x v → (∀ s', Kp T.N s s' → Q (.bool b) s') → wpAny T.M A (call (.builtin "isinstance") [x, .type ty]) Q E s
theorem IsA.str {x : Str} : IsA T n (.d (.str x)) "str" true := ⟨fun hA r h => by
  obtain ⟨t, rfl⟩ := Rep.str_inv r
  exact IsiPair.str_str (h _ (.refl _))⟩
theorem EvF.isi {e : PySem.Expr} {t : Str} {p p' pos : Pos} {v : Vl} {fl : Fl} {ty : String} {b : Bool} (he : Ev T n env Γ e v fl) (hx : env.kindOf "isinstance" = some .globalImplicit) (hg : T.mg "isinstance" = none) (hb : T.mb "isinstance" = some (.builtin "isinstance"))
    (hx' : env.kindOf t = some .globalImplicit) (hd' : (t == ("__debug__" : Str)) = false) (hg' : T.mg t = none) (hb' : T.mb t = some (.type ty)) (hi : IsA T n v ty b) (hs : starEach [e, .Name t p'] env = [(false, eval e env), (false, eval (.Name t p') env)]) :
    EvF T n env Γ (.Call (.Name "isinstance" p) [e, .Name t p'] [] pos) (.bool b) := ⟨fun {A reg s E Q} hA R h => by
  refine Call_Name rfl (ld_builtin R hx (by decide +kernel) hg hb ?_)
  have hb1 : backTo pos (starEach [e, .Name t p'] env) = [(false, eval e env), (false, eval (.Name t p') env)] := by rw [hs]; rfl
  rw [hb1]
  refine callWith_machine (.inl ⟨_, rfl⟩) rfl (evalArgs_plain (spliced_cons (he.run hA R fun val s₁ k₁ r₁ => spliced_cons (ld_builtin (R.kp k₁) hx' hd' hg' hb' (spliced_nil ?_)))))
  exact hi.run hA r₁ fun s₂ k₂ => h _ _ (k₁.trans k₂) (repF_bool b)⟩

theorem Meth.index {l : List Nat} {c i : Nat} {fl f₂ : Fl} (hi : l[i]? = some c) (hf : ∀ k, k < i → l[k]? ≠ some c) : Meth T n "index" (.d (.str (mkS l))) fl [(.d (.str (mkS [c])), f₂)] (.int i) := ⟨fun {A reg s E Q ov} hA r => by
  obtain ⟨t, rfl⟩ := Rep.str_inv r
  refine ⟨"str", "str.index", F.plainAttrs_str, F.slot_str_index, F.type_str_index, typeIs_str _ _ _, fun _ e => (nomatch e), fun s₁ vals k R W rs h => ?_⟩
  cases rs with
  | cons r1 r2 =>
    cases r2
    obtain ⟨u, rfl⟩ := Rep.str_inv r1
    have key : ∃ rest, Builtin.Str.occurrences (mkS l) (mkS [c]) 0 (mkS l).length 1 = i :: rest := by
      have hat : ∀ k, StrLaws.At (mkS l) (mkS [c]) (mkS l).length k ↔ l[k]? = some c := fun k => by
        unfold StrLaws.At
        rw [StrLaws.subAt_eq, mkS_len, mkS_len, mkS_cps, mkS_cps]
        simp only [List.length_singleton, beq_iff_eq]
        constructor
        · rintro ⟨_, h2⟩
          have h3 : ((l.drop k).take 1)[0]? = some c := by rw [h2]; rfl
          simpa using h3
        · intro h2
          have hlt := (List.getElem?_eq_some_iff.mp h2).1
          refine ⟨by omega, ?_⟩
          rw [List.drop_eq_getElem_cons hlt]
          simp [(List.getElem?_eq_some_iff.mp h2).2]
      rcases StrLaws.occ_head (mkS l) (mkS [c]) 1 (Nat.le_refl _) with ⟨_, hn⟩ | ⟨j, r, e, hj, hn⟩
      · exact absurd ((hat i).mpr hi) (hn i)
      · have h1 := (hat j).mp hj
        have : j = i := by
          rcases Nat.lt_trichotomy j i with q | q | q
          · exact absurd h1 (hf j q)
          · exact q
          · exact absurd ((hat i).mpr hi) (hn i q)
        subst this
        exact ⟨r, e⟩
    obtain ⟨rest, e⟩ := key
    exact SC.index e (h _ _ (.tok _ _) (repF_int ..))⟩
theorem strsAre_of {w : World} {R : Addr → Prop} {h : Heap} : ∀ {vs : List Value} {xs : List (List Nat)}, RepAll w R h vs (xs.map fun x => .str (mkS x)) → StrsAre vs (xs.map mkS)
  | [], [], _ => .nil
  | [], _ :: _, ⟨_, r, _⟩ => nomatch r
  | _ :: _, [], ⟨_, r, _⟩ => nomatch r
  | _ :: _, x :: xs, r => by
    obtain ⟨t, e⟩ := Rep.str_inv r.cons_inv.1
    subst e
    exact .cons _ t (strsAre_of r.cons_inv.2)
theorem join_mkS (sep : List Nat) : ∀ xs : List (List Nat), Str.join (mkS sep) (xs.map mkS) = mkS (List.intercalate sep xs)
  | [] => rfl
  | [x] => by simp [Str.join, List.intercalate]
  | x :: y :: r => by
    show mkS x ++ mkS sep ++ Str.join (mkS sep) ((y :: r).map mkS) = _
    rw [join_mkS sep (y :: r), mkS_app, mkS_app]
    simp [List.intercalate]
theorem Meth.join {sep : List Nat} {xs : List (List Nat)} {fl f₂ : Fl} (hok : (xs.map (·.length)).sum + xs.length * sep.length ≤ 16777216) : Meth T n "join" (.d (.str (mkS sep))) fl [(.d (.list (xs.map fun x => .str (mkS x))), f₂)] (.str (mkS (List.intercalate sep xs))) := ⟨fun {A reg s E Q ov} hA r => by
  obtain ⟨t, rfl⟩ := Rep.str_inv r
  refine ⟨"str", "str.join", F.plainAttrs_str, F.slot_str_join, F.type_str_join, typeIs_str _ _ _, fun _ e => (nomatch e), fun s₁ vals k R W rs h => ?_⟩
  cases rs with
  | cons r1 r2 =>
    cases r2
    obtain ⟨a, vs, rfl, _, hl, hall⟩ := Rep.list_inv r1
    have hst := strsAre_of hall
    refine join_list hl hst ?_ fun t' k' => ?_
    · simpa [Function.comp_def, mkS_len] using hok
    · have e : Txt.join (mkS sep) (xs.map mkS) = mkS (List.intercalate sep xs) := by
        show Builtin.Str.glued _ _ = _
        rw [StrLaws.glued_eq_join]; exact join_mkS sep xs
      rw [e]
      exact h _ _ (.tok _ _) (repF_str ..)⟩
end
end Mine
end
section
open PySem PySem.Calls PyProof.Rows PySem.W
set_option linter.all false
namespace Mine

structure GdK (T : St) (K : Frag) : Prop where
  k : T.K = K
  g : ∀ x r, nsIn K mainGlobals x = some r → T.mg x = r
  b : ∀ x : Str, x ≠ "__name__" → T.mb x = bootBuiltins x
  fr : ∃ (p : Program) (loose : List Str), ∀ x, x ∉ startupNames → x ∉ loose → x ∉ (recsOf p).map (·.name) → x ∉ (litsOf p).map (·.1) → x ∉ (clssOf p loose).map (·.name) → T.mg x = none
theorem GdK.gd {T : St} {K : Frag} (G : GdK T K) : Gd T := ⟨fun x r e => G.g x r (by rw [← G.k]; exact e), G.b⟩
theorem GdK.bi {T : St} {K : Frag} (G : GdK T K) {x : Str} {v : Value} (hv : bootBuiltins x = some v) (hn : (x == ("__name__" : Str)) = false) : T.mb x = some v := (G.b x (by simpa using hn)).trans hv

def okNames (ns : List Str) : Bool := (decide ns.Nodup) && ns.all fun x => !(x == ("__debug__" : Str))
theorem okNames_ok {ns : List Str} (h : okNames ns = true) : GmOk ns := by
  simp only [okNames, Bool.and_eq_true, decide_eq_true_eq, List.all_eq_true] at h
  exact ⟨h.1, fun x hx => by have := h.2 x hx; simpa using this⟩
def okPrm (scope : Scope) (ps : List Str) : Bool := ps.all fun x => match scope.names.lookup x with
  | some .local => true
  | some .cell => true
  | _ => false
theorem okPrm_ok {scope : Scope} {ps : List Str} (h : okPrm scope ps = true) : ∀ x ∈ ps, scope.names.lookup x = some .local ∨ scope.names.lookup x = some .cell := fun x hx => by
  have := List.all_eq_true.mp h x hx
  revert this
  split <;> simp_all

theorem Fun.defK {T : St} {K : Frag} {n : Nat} {f : Str} {a : Addr} {xs : List Vl} {d : PyData} {name qual : Str} {params : Arguments} {body : List Stmt} {scope : Scope} {dV kV doc pm cdv ct oc : Value} {an od : Option Addr} {osl : Array (Option Value)} {Γp : Gm}
    (G : GdK T K) (ps ls : List Str) (hn : nsIn K mainGlobals f = some (some (.ref a))) (ho : K.lookup a = some ⟨oc, od, .func (fnOf name qual params body scope dV kV doc pm an cdv ct), osl⟩) (hcd : codeIn K cdv qual = true)
    (hb : Binds (fnOf name qual params body scope dV kV doc pm an cdv ct) ps) (hp : Prm ps xs Γp) (hok : okNames (ps ++ ls) = true) (hk : okPrm scope ps = true)
    (hsc : scope.kind = .function ∧ scope.isCoroutine = false ∧ scope.isGenerator = false)
    (h : ∀ env : Env, env.scope = scope → Ex T n env (Γp ++ ls.map fun x => (x, none)) body (Ends d)) : Fun T (n + 1) f xs d :=
  Fun.def G.gd (by rw [G.k]; exact hn) (by rw [G.k]; exact ho) (by rw [G.k]; exact hcd) hb hp (okNames_ok hok) (okPrm_ok hk) hsc h

theorem kd {env : Env} {scope : Scope} (he : env.scope = scope) {x : Str} {k : NameKind} (h : scope.names.lookup x = some k) : env.kindOf x = some k := by
  unfold Env.kindOf; rw [he]; exact h

section
variable {T : St} {n : Nat} {env : Env} {Γ : Gm}
inductive Cut (lo hi : Option Int) : Vl → Fl → PyData → Prop where
  | s {x : List Nat} {fl : Fl} : x.length ≤ sizeLine → Cut lo hi (.d (.str (mkS x))) fl (.str (mkS (pyCut lo hi x)))
  | l {xs : List PyData} {fl : Fl} : xs.length ≤ sizeLine → fl = .c ∨ stillAll xs = true → Cut lo hi (.d (.list xs)) fl (.list (pyCut lo hi xs))
theorem EvF.cut {e : PySem.Expr} {l u : Option PySem.Expr} {p pos : Pos} {v : Vl} {fl : Fl} {lo hi : Option Int} {d : PyData} (he : Ev T n env Γ e v fl) (hl : Opt T n env Γ l lo) (hu : Opt T n env Γ u hi) (hc : Cut lo hi v fl d) :
    EvF T n env Γ (.Subscript e (.Slice l u none p) pos) d := by
  cases hc with
  | s hz => exact .cutS he hl hu hz
  | l hz hs => exact .cutL he hl hu hz hs
end

theorem EvF.cast {T : St} {n : Nat} {env : Env} {Γ : Gm} {e : PySem.Expr} {d d' : PyData} (x : EvF T n env Γ e d) (h : d = d') : EvF T n env Γ e d' := h ▸ x
def okComp (scope sc : Scope) (x : Str) : Bool := (match scope.names.lookup x with | some .local => true | _ => false) && scope.names.all fun y => match y.2 with
  | .cell => false
  | .local => (match scope.names.lookup y.1 with | some .local => true | _ => false)
  | .free => (match sc.names.lookup y.1 with | some .cell => true | _ => false)
  | _ => true
theorem okComp_ok {scope sc : Scope} {env : Env} {x : Str} (he : env.scope = sc) (hk : scope.kind = .function) (h : okComp scope sc x = true) : CompScope scope env x := by
  unfold okComp at h
  rw [Bool.and_eq_true, List.all_eq_true] at h
  refine ⟨hk, fun y hy q => ?_, fun y hy q => ?_, ?_, fun y hy q => ?_⟩
  · have := h.2 y hy; rw [q] at this; cases this
  · have := h.2 y hy; rw [q] at this
    revert this; dsimp only; split <;> simp_all
  · have := h.1
    revert this; split <;> simp_all
  · have := h.2 y hy; rw [q] at this
    refine kd he ?_
    revert this; dsimp only; split <;> simp_all
theorem sizeLine_is : sizeLine = 16777216 := rfl
theorem stillAll_ints : ∀ ns : List Int, stillAll (ns.map .int) = true
  | [] => rfl
  | _ :: ns => by simp [stillAll, still, stillAll_ints ns]
theorem Ends.str {l l' : List Nat} {Γ : Gm} (h : l' = l) : Ends (.str (mkS l)) (.ret (.str (mkS l'))) Γ := by subst h; rfl
theorem Ends.ret {d d' : PyData} {Γ : Gm} (h : d' = d) : Ends d (.ret d') Γ := h
section
variable {T : St} {n : Nat} {env : Env} {Γ : Gm}
inductive Fst : List (Vl × Fl) → List Vl → Prop where
  | nil : Fst [] []
  | cons {v : Vl} {fl : Fl} {xs : List (Vl × Fl)} {ys : List Vl} : Fst xs ys → Fst ((v, fl) :: xs) (v :: ys)
theorem Fst.eq {xs : List (Vl × Fl)} {ys : List Vl} (h : Fst xs ys) : xs.map (·.1) = ys := by
  induction h with
  | nil => rfl
  | cons _ ih => simp [ih]
theorem EvF.fnL {m : Nat} {f : Str} {p pos : Pos} {args : List PySem.Expr} {xs : List (Vl × Fl)} {ys : List Vl} {d : PyData} (hx : env.kindOf f = some .globalImplicit) (hd : (f == ("__debug__" : Str)) = false)
    (ha : EvA T n env Γ args xs) (hf : Fst xs ys) (hc : Fun T m f ys d) (hm : m ≤ n) : EvF T n env Γ (.Call (.Name f p) args [] pos) d := by
  have e := hf.eq
  subst e; exact EvF.fn hx hd ha hc hm
def EvL (T : St) (n : Nat) (env : Env) (Γ : Gm) (es : List PySem.Expr) (ds : List PyData) : Prop := EvA T n env Γ es (ds.map fun d => (.d d, .c))
theorem EvL.nil : EvL T n env Γ [] [] := EvA.nil
theorem EvL.cons {e : PySem.Expr} {es : List PySem.Expr} {d : PyData} {ds : List PyData} (x : Ev T n env Γ e (.d d) .c) (y : EvL T n env Γ es ds) (hs : starEach (e :: es) env = (false, eval e env) :: starEach es env) : EvL T n env Γ (e :: es) (d :: ds) := EvA.cons x y hs
theorem EvF.listL {es : List PySem.Expr} {pos : Pos} {ds : List PyData} (ha : EvL T n env Γ es ds) (hz : ds.length ≤ sizeLine) : EvF T n env Γ (.List es pos) (.list ds) := EvF.list ha hz
theorem EvF.tupleL {es : List PySem.Expr} {k : Nat} {pos : Pos} {ds : List PyData} (ha : EvL T n env Γ es ds) (hz : ds.length ≤ sizeLine) : EvF T n env Γ (.Tuple es k pos) (.tuple ds) := EvF.tuple ha hz
end

end Mine
end
section
open PySem PySem.Calls PyProof.Rows PySem.W
set_option linter.all false
namespace Mine
section
variable {T : St} {n : Nat} {env : Env} {Γ : Gm}
theorem Cmp.eqD {a b : PyData} (ha : a.canLay0 = true) (hb : b.canLay0 = true) (hd : a.depth ≤ 50) : Cmp T n .Eq (.d a) (.d b) (PyData.eqv a b) := ⟨fun {A R₁ R₂ s E Q x y} hA W r₁ r₂ h => by
  obtain ⟨as, q1, _⟩ := r₁
  obtain ⟨bs, q2, _⟩ := r₂
  exact PySem.SeqAt.compareEq_reads q1 q2 ha hb (by have := hA.units; omega) (h _ (.refl _))⟩
theorem Cmp.neD {a b : PyData} (ha : a.canLay0 = true) (hb : b.canLay0 = true) (hd : a.depth ≤ 50) : Cmp T n .NotEq (.d a) (.d b) (!PyData.eqv a b) := ⟨fun {A R₁ R₂ s E Q x y} hA W r₁ r₂ h => by
  obtain ⟨as, q1, _⟩ := r₁
  obtain ⟨bs, q2, _⟩ := r₂
  exact PySem.SeqAt.compareNe_reads q1 q2 ha hb (by have := hA.units; omega) (h _ (.refl _))⟩
def isNoneD : PyData → Bool
  | .none => true
  | _ => false
theorem Cmp.isNone {a : PyData} : Cmp T n .Is (.d a) (.d .none) (isNoneD a) := ⟨fun {A R₁ R₂ s E Q x y} hA W r₁ r₂ h => by
  obtain rfl := Rep.none_inv r₂
  obtain ⟨as, q1, _⟩ := r₁
  cases q1 <;> first | exact wpAny_is_self rfl (h _ (.refl _)) | exact wpAny_is_other rfl (by simp) (h _ (.refl _))⟩
theorem CallB.listL {xs : List PyData} {fl : Fl} (hz : xs.length ≤ sizeLine) (hc : fl = .c ∨ stillAll xs = true) : CallB T n (.type "list") [(.d (.list xs), fl)] (.list xs) := ⟨fun {A reg s E Q vals} hA R W r h => by
  cases r with
  | cons r1 r2 =>
    cases r2
    obtain ⟨a, vs, rfl, _, hl, hall⟩ := Rep.list_inv r1
    have hall : RepAll T.w (reg .c) s.heap vs xs := by
      rcases hc with rfl | hc
      · exact hall
      · exact hall.still hc
    obtain ⟨o, ho, hcl, k, hdat⟩ := hl
    refine call_list_seq a (.inl rfl) ho hcl hdat (fun h' c' hk hnew => ?_) (by rw [List.size_toArray, hall.length]; exact hz)
    exact h _ _ (.of ⟨h', s.toks, rfl, hk⟩) (repF_list (N := T.N) (fun b hb => R.fresh .c b hb) (Heap.get?_none_of_le (Nat.le_refl _)) hnew rfl rfl rfl hall (.of hk))⟩
end
end Mine
end
section
open PySem PySem.W PyProof.Rows
set_option linter.all false
namespace Mine
theorem pyCut_ab {α : Type} (l : List α) (a b : Int) (ha : 0 ≤ a) (hb : 0 ≤ b) : pyCut (some a) (some b) l = (l.drop a.toNat).take (b.toNat - a.toNat) := by
  unfold pyCut clampTo
  simp only [show ¬ a < 0 by omega, show ¬ b < 0 by omega, if_false]
  by_cases hk : a.toNat ≤ l.length
  · rw [show min a.toNat l.length = a.toNat by omega]
    by_cases hb' : b.toNat ≤ l.length
    · rw [show min b.toNat l.length = b.toNat by omega]
    · rw [show min b.toNat l.length = l.length by omega, List.take_of_length_le (by simp), List.take_of_length_le (by simp; omega)]
  · rw [show min a.toNat l.length = l.length by omega, List.drop_eq_nil_of_le (Nat.le_refl _), List.drop_eq_nil_of_le (by omega)]
    simp
theorem pyCut_from {α : Type} (l : List α) (a : Int) (ha : 0 ≤ a) : pyCut (some a) none l = l.drop a.toNat := by
  unfold pyCut clampTo
  simp only [show ¬ a < 0 by omega, if_false]
  by_cases hk : a.toNat ≤ l.length
  · rw [show min a.toNat l.length = a.toNat by omega, List.take_of_length_le (by simp)]
  · rw [show min a.toNat l.length = l.length by omega, List.drop_eq_nil_of_le (Nat.le_refl _), List.drop_eq_nil_of_le (by omega)]
    simp
theorem of_item (ns : List Int) (k : Int) (h : 0 ≤ k) : (pyCut (some k) (some (k + 1)) (ns.map PyData.int) ++ [PyData.int 0])[Int.toNat 0]? = some (.int (ns.getD k.toNat 0)) := by
  rw [pyCut_ab _ _ _ h (by omega), show (k + 1).toNat - k.toNat = 1 by omega]
  rw [show Int.toNat 0 = 0 from rfl]
  by_cases hk : k.toNat < ns.length
  · rw [List.drop_eq_getElem_cons (by simpa using hk)]
    simp [List.getD, hk]
  · rw [List.drop_eq_nil_of_le (by simpa using Nat.le_of_not_lt hk)]
    simp [List.getD, List.getElem?_eq_none (Nat.le_of_not_lt hk)]

theorem decS_len {i : Int} (h0 : 0 ≤ i) (h1 : i < 94) : (decS i).length ≤ 2 := by
  have h : ∀ k : Fin 94, (decS (k.val : Int)).length ≤ 2 := by decide +kernel
  have := h ⟨i.toNat, by omega⟩
  rwa [show ((i.toNat : Nat) : Int) = i by omega] at this

def sgn (i : Nat) : Nat := if i < 5 then i + 32 else i + 33
def signsL : List Nat := (List.range 94).map sgn
theorem signsL_len : signsL.length = 94 := by decide +kernel
theorem signsL_at {i : Nat} (h : i < 94) : signsL[i]? = some (sgn i) := by simp [signsL, h]

def Odd (c : Nat) : Prop := c = 46 ∨ c = 47 ∨ c = 64 ∨ c = 126
def fig (c : Nat) : List Nat := if c = 46 then [49, 51] else if c = 47 then [49, 52] else if c = 64 then [51, 49] else [57, 51]
def esc (c : Nat) : List Nat := 126 :: fig c
def mst (name : List Nat) (k : Nat) : Bool := decide (name.getD k 0 = 47) || (decide (name.getD k 0 = 126) || (decide (k = 0) && (decide (name.getD k 0 = 64) || (decide (name = [46]) || decide (name = [46, 46])))))
def pc (name : List Nat) (k : Nat) : List Nat := if mst name k then esc (name.getD k 0) else [name.getD k 0]
def wrTo (name : List Nat) (i : Nat) : List Nat := (List.range i).flatMap (pc name)
def wr (name : List Nat) : List Nat := wrTo name name.length
theorem wrTo_succ (name : List Nat) (i : Nat) : wrTo name (i + 1) = wrTo name i ++ pc name i := by
  unfold wrTo; rw [List.range_succ]; simp
theorem mst_odd {name : List Nat} {k : Nat} (hk : k < name.length) (h : mst name k = true) : Odd (name.getD k 0) := by
  simp only [mst, Bool.or_eq_true, Bool.and_eq_true, decide_eq_true_eq] at h
  rcases h with h | h | ⟨h0, h | h | h⟩
  · exact .inr (.inl h)
  · exact .inr (.inr (.inr h))
  · exact .inr (.inr (.inl h))
  · subst h; subst h0; exact .inl rfl
  · subst h; subst h0; exact .inl rfl
theorem fig_len (c : Nat) : (fig c).length = 2 := by
  unfold fig; repeat' split
  all_goals rfl
theorem pc_len (name : List Nat) (k : Nat) : 1 ≤ (pc name k).length ∧ (pc name k).length ≤ 3 := by
  unfold pc; split <;> simp [esc, fig_len]
theorem wrTo_len (name : List Nat) : ∀ i, i ≤ (wrTo name i).length ∧ (wrTo name i).length ≤ 3 * i
  | 0 => by simp [wrTo]
  | i + 1 => by
    have := wrTo_len name i
    have := pc_len name i
    rw [wrTo_succ, List.length_append]; omega
def oddL : List (List Nat) := [[46], [46, 46], [126], [47], [64], [64, 97], [97], [98], [46, 46, 46], [46, 97], [126, 49, 51], [97, 47, 98], [32], [46, 46, 97]]
def nmS (c : Int) (k : Nat) : Nat := sgn (((c / 12 + 7 * (k : Int)) * 48271 % 65537 / 5 % 94).toNat)
def nmSize (c : Int) : Int := if c / 12 % 9 = 4 then 1 + c / 3 % 4 + c / 108 % 40 else 1 + c / 3 % 4
def nameBy (c : Int) : List Nat := if c % 3 = 0 then oddL.getD (c / 3 % 14).toNat [] else (List.range (nmSize c).toNat).map (nmS c)
theorem nmSize_le (c : Int) : 0 ≤ nmSize c ∧ nmSize c ≤ 43 := by
  unfold nmSize; split <;> omega
theorem nameBy_len (c : Int) : (nameBy c).length ≤ 43 := by
  unfold nameBy
  split
  · have h : (c / 3 % 14).toNat < 14 := by omega
    generalize (c / 3 % 14).toNat = k at h
    revert k
    decide +kernel
  · simp only [List.length_map, List.length_range, nmSize]
    split <;> omega
end Mine
end
section
open PySem PySem.W PyProof.Rows
set_option linter.all false
namespace Mine
def longN (first size : Int) : List Nat := (List.range size.toNat).map fun k : Nat => sgn ((first + 7 * (k : Int) * (k : Int)) % 94).toNat
def frk : Int → PyData → PyData
  | first, .int k => .str (mkS [sgn ((first + 7 * k * k) % 94).toNat])
  | _, _ => .none
end Mine
end
section
namespace Mine
def splitC (c : Nat) : List Nat → List (List Nat)
  | [] => [[]]
  | x :: r => if x = c then [] :: splitC c r else (x :: (splitC c r).headD []) :: (splitC c r).tail
theorem splitC_ne (c : Nat) : ∀ l, splitC c l ≠ []
  | [] => by simp [splitC]
  | x :: r => by unfold splitC; split <;> simp
theorem icat_cons (s : List Nat) (x y : List Nat) (r : List (List Nat)) : List.intercalate s (x :: y :: r) = x ++ s ++ List.intercalate s (y :: r) := by
  simp [List.intercalate]
theorem icat_single (s : List Nat) (x : List Nat) : List.intercalate s [x] = x := by simp [List.intercalate]
theorem splitC_app (c : Nat) : ∀ (p l : List Nat), c ∉ p → splitC c (p ++ c :: l) = p :: splitC c l
  | [], l, _ => by rw [List.nil_append, splitC, if_pos rfl]
  | x :: p, l, h => by
    simp only [List.mem_cons, not_or] at h
    rw [List.cons_append, splitC, if_neg (fun e => h.1 e.symm), splitC_app c p l h.2]
    rfl
theorem splitC_one (c : Nat) : ∀ (p : List Nat), c ∉ p → splitC c p = [p]
  | [], _ => rfl
  | x :: p, h => by
    simp only [List.mem_cons, not_or] at h
    rw [splitC, if_neg (fun e => h.1 e.symm), splitC_one c p h.2]
    rfl
theorem icat_splitC (c : Nat) : ∀ (ps : List (List Nat)), ps ≠ [] → (∀ p ∈ ps, c ∉ p) → splitC c (List.intercalate [c] ps) = ps
  | [], h, _ => absurd rfl h
  | [p], _, h => by rw [icat_single, splitC_one c p (h p (.head _))]
  | p :: q :: r, _, h => by
    rw [icat_cons, List.append_assoc, List.singleton_append, splitC_app c p _ (h p (.head _)), icat_splitC c (q :: r) (by simp) fun x hx => h x (.tail _ hx)]

def isDig (c : Nat) : Bool := decide (48 ≤ c) && decide (c ≤ 57)
def val2 (p q : Nat) : Nat := 10 * (p - 48) + (q - 48)
def readL : List Nat → Option (List Nat)
  | [] => some []
  | [c] => if c = 126 then none else some [c]
  | [c, d] => if c = 126 then none else (readL [d]).map (c :: ·)
  | c :: p :: q :: r => if c = 126 then (if isDig p && isDig q && decide (val2 p q ≤ 93) then (readL r).map (sgn (val2 p q) :: ·) else none) else (readL (p :: q :: r)).map (c :: ·)
theorem readL_plain {c : Nat} (h : c ≠ 126) (r : List Nat) : readL (c :: r) = (readL r).map (c :: ·) := by
  match r with
  | [] => simp [readL, h]
  | [d] => simp only [readL, if_neg h]
  | p :: q :: r => simp only [readL, if_neg h]
theorem readL_esc {p q : Nat} (r : List Nat) (h1 : isDig p = true) (h2 : isDig q = true) (h3 : val2 p q ≤ 93) : readL (126 :: p :: q :: r) = (readL r).map (sgn (val2 p q) :: ·) := by
  simp [readL, h1, h2, h3]
theorem readL_bad {r : List Nat} (h : ∀ p q r', r = p :: q :: r' → isDig p = true → isDig q = true → ¬ val2 p q ≤ 93) : readL (126 :: r) = none := by
  match r with
  | [] => rfl
  | [d] => rfl
  | p :: q :: r =>
    have := h p q r rfl
    simp only [readL, if_true]
    split
    · rename_i hh
      simp only [Bool.and_eq_true, decide_eq_true_eq] at hh
      exact absurd hh.2 (this hh.1.1 hh.1.2)
    · rfl
theorem range_getD (nm : List Nat) : (List.range nm.length).map (nm.getD · 0) = nm := by
  apply List.ext_getElem
  · simp
  · intro i h1 h2
    simp [List.getD, h2]
theorem wr_len (nm : List Nat) : nm.length ≤ (wr nm).length ∧ (wr nm).length ≤ 3 * nm.length := wrTo_len nm nm.length
def cpl : List (List Nat) → List (List Nat) → Nat
  | x :: s, y :: g => if x = y then cpl s g + 1 else 0
  | _, _ => 0
def partsL (ups : Nat) (names : List (List Nat)) : List (List Nat) := List.replicate ups [46, 46] ++ names.map wr
def hereL (ups : Nat) (names : List (List Nat)) : List Nat := if partsL ups names = [] then [46] else List.intercalate [47] (partsL ups names)
def wayL (s g : List (List Nat)) : List Nat := hereL (s.length - cpl s g) (g.drop (cpl s g))
inductive Stp where
  | root | up
  | sh (x : List Nat)
  | nm (x : List Nat)
def go (P : List Nat → List (List Nat)) (p : List (List Nat)) : Stp → List (List Nat)
  | .root => []
  | .up => p.dropLast
  | .sh x => P x
  | .nm x => p ++ [x]
def stepsL (ups : Nat) (names : List (List Nat)) : List Stp := List.replicate ups .up ++ names.map .nm
end Mine
end
section
open PySem PyProof.Rows PySem.W
set_option linter.all false
namespace Mine
abbrev sD (x : List Nat) : PyData := .str (mkS x)
abbrev PL (ps : List (List Nat)) : List PyData := ps.map fun x => PyData.str (mkS x)
def Asc (x : List Nat) : Prop := ∀ c ∈ x, c < 128
theorem strOk_asc {x : List Nat} (h : Asc x) : PyData.strOk (mkS x) = true := by
  unfold PyData.strOk
  rw [Array.all_eq_true_iff_forall_mem]
  intro c hc
  have hc' : c ∈ x := by simpa [mkS] using hc
  have := h c hc'
  simp
  omega
theorem beq_mkS (a b : List Nat) : (mkS a == mkS b) = decide (a = b) := by
  rw [Bool.eq_iff_iff]
  simp [mkS_inj]
theorem eqvAll_PL : ∀ a b : List (List Nat), PyData.eqvAll (PL a) (PL b) = decide (a = b)
  | [], [] => by simp [PyData.eqvAll]
  | [], _ :: _ => by simp [PyData.eqvAll]
  | _ :: _, [] => by simp [PyData.eqvAll]
  | x :: a, y :: b => by
    have ih := eqvAll_PL a b
    show (PyData.eqv (.str (mkS x)) (.str (mkS y)) && PyData.eqvAll (PL a) (PL b)) = _
    rw [ih]
    show ((mkS x == mkS y) && _) = _
    rw [beq_mkS]
    rw [Bool.eq_iff_iff]; simp
theorem canLay_PL : ∀ {a : List (List Nat)}, (∀ x ∈ a, Asc x) → PyData.canLayAll0 (PL a) = true
  | [], _ => rfl
  | x :: a, h => by
    show (PyData.strOk (mkS x) && PyData.canLayAll0 (PL a)) = true
    rw [strOk_asc (h x (.head _)), canLay_PL fun y hy => h y (.tail _ hy)]; rfl
theorem depth_PL : ∀ a : List (List Nat), PyData.depthAll (PL a) = 0
  | [] => rfl
  | x :: a => by
    show max 0 (PyData.depthAll (PL a)) = 0
    rw [depth_PL a]; rfl
theorem still_PL : ∀ a : List (List Nat), stillAll (PL a) = true
  | [] => rfl
  | x :: a => by simp [stillAll, still, still_PL a]
section
variable {T : St} {n : Nat} {env : Env} {Γ : Gm}
theorem Cmp.eqPL {a b : List (List Nat)} (ha : ∀ x ∈ a, Asc x) (hb : ∀ x ∈ b, Asc x) : Cmp T n .Eq (.d (.list (PL a))) (.d (.list (PL b))) (decide (a = b)) := by
  rw [← eqvAll_PL]
  exact Cmp.eqD (a := .list (PL a)) (b := .list (PL b)) (canLay_PL ha) (canLay_PL hb) (by show PyData.depthAll (PL a) + 1 ≤ 50; rw [depth_PL]; decide)
theorem Cmp.nePL {a b : List (List Nat)} (ha : ∀ x ∈ a, Asc x) (hb : ∀ x ∈ b, Asc x) : Cmp T n .NotEq (.d (.list (PL a))) (.d (.list (PL b))) (!decide (a = b)) := by
  rw [← eqvAll_PL]
  exact Cmp.neD (a := .list (PL a)) (b := .list (PL b)) (canLay_PL ha) (canLay_PL hb) (by show PyData.depthAll (PL a) + 1 ≤ 50; rw [depth_PL]; decide)
end
theorem sgn_lt {i : Nat} (h : i < 94) : sgn i < 128 := by unfold sgn; split <;> omega
theorem nameBy_ne (c : Int) : nameBy c ≠ [] := by
  unfold nameBy
  split
  · have h : (c / 3 % 14).toNat < 14 := by omega
    generalize (c / 3 % 14).toNat = k at h
    have key : ∀ k : Fin 14, oddL.getD k.val [] ≠ [] := by decide +kernel
    exact key ⟨k, h⟩
  · intro e
    have := congrArg List.length e
    simp only [List.length_map, List.length_range, List.length_nil] at this
    unfold nmSize at this
    split at this <;> omega
end Mine
end
section
open PySem PySem.Calls PyProof.Rows PySem.W
set_option linter.all false
namespace Mine
theorem split_mkS (l : List Nat) (c : Nat) : Txt.split (mkS l) (mkS [c]) = (splitC c l).map mkS := by
  have hne : Txt.split (mkS l) (mkS [c]) ≠ [] := fun e => by have := (fact_split (mkS l) (mkS [c])).1; rw [e] at this; simp at this
  have hfree := StrLaws.split_free (mkS l) c
  have hj := StrLaws.join_split (mkS l) (mkS [c])
  have key : ∀ ps : List Str, ps = (ps.map fun p : Str => p.cps.toList).map mkS := fun ps => by
    rw [List.map_map]; exact (List.map_id' ps).symm
  have hfree' : ∀ p ∈ Txt.split (mkS l) (mkS [c]), c ∉ p.cps.toList := hfree
  generalize Txt.split (mkS l) (mkS [c]) = ps at hne hfree' hj
  have hj' : List.intercalate [c] (ps.map fun p : Str => p.cps.toList) = l := by
    rw [key ps, join_mkS] at hj
    exact mkS_inj.mp hj
  rw [key ps, ← hj', icat_splitC c _ (by simpa using hne)]
  intro p hp
  obtain ⟨q, hq, rfl⟩ := List.mem_map.mp hp
  exact hfree' q hq
theorem strs_rep {w : World} {R : Addr → Prop} {h : Heap} : ∀ (tk : Nat) (xs : List (List Nat)), RepAll w R h (strsFrom tk (xs.map mkS)) (xs.map fun x => .str (mkS x))
  | _, [] => RepAll.nil
  | tk, x :: xs => RepAll.cons (rep_str ..) (strs_rep (tk + 1) xs)
theorem splitC_len (c : Nat) : ∀ l, (splitC c l).length ≤ l.length + 1
  | [] => by simp [splitC]
  | x :: r => by
    have := splitC_len c r
    unfold splitC
    split
    · simp; omega
    · simp; omega
section
variable {T : St} {n : Nat} {env : Env} {Γ Γ' : Gm}
theorem Meth.split {l : List Nat} {c : Nat} {fl f₂ : Fl} (hz : l.length < sizeLine) : Meth T n "split" (.d (.str (mkS l))) fl [(.d (.str (mkS [c])), f₂)] (.list ((splitC c l).map fun x => .str (mkS x))) := ⟨fun {A reg s E Q ov} hA r => by
  obtain ⟨t, rfl⟩ := Rep.str_inv r
  refine ⟨"str", "str.split", F.plainAttrs_str, F.slot_str_split, F.type_str_split, typeIs_str _ _ _, fun _ e => (nomatch e), fun s₁ vals k R W rs h => ?_⟩
  cases rs with
  | cons r1 r2 =>
    cases r2
    obtain ⟨u, rfl⟩ := Rep.str_inv r1
    have hsp := split_mkS l c
    have hlen := splitC_len c l
    unfold Txt.split at hsp
    have one : (splitC c l).map mkS = [mkS l] → Q (.ref s₁.heap.objs.size) { s₁ with heap := s₁.heap.push { cls := .type "list", data := .seq [Value.str (mkS l) t].toArray } } := fun e => by
      have e' : splitC c l = [l] := by
        cases hq : splitC c l with
        | nil => exact absurd hq (splitC_ne c l)
        | cons a b =>
          rw [hq] at e
          simp only [List.map_cons, List.cons.injEq, List.map_eq_nil_iff, mkS_inj] at e
          rw [e.1, e.2]
      rw [e'] at h
      exact h _ _ (.push _ _) (repF_listP (fun b => R.fresh .c b) (RepAll.cons (rep_str ..) RepAll.nil))
    cases h1 : (decide ((mkS l).length < (mkS [c]).length) || decide (Builtin.Str.strKind (mkS l) < Builtin.Str.strKind (mkS [c]))) with
    | true =>
      rw [h1] at hsp
      exact call_meets F.slot_str_split (typeIs_str _ _ _) F.entry_str_split (F.args_str_split_2 _ _) (meets_str_split_cannot_occur _ _ t u h1) (one hsp.symm)
    | false =>
      rw [h1] at hsp
      cases hf : (Builtin.Str.occurrences (mkS l) (mkS [c]) 0 (mkS l).length ((mkS l).length + 1)).isEmpty with
      | true =>
        rw [hf] at hsp
        exact call_meets F.slot_str_split (typeIs_str _ _ _) F.entry_str_split (F.args_str_split_2 _ _) (meets_str_split_not_found _ _ t u h1 rfl hf) (one hsp.symm)
      | false =>
        rw [hf] at hsp
        simp only [Bool.false_eq_true, if_false] at hsp
        refine call_meets F.slot_str_split (typeIs_str _ _ _) F.entry_str_split (F.args_str_split_2 _ _) (meets_str_split_sep _ _ t u h1 rfl hf (by rw [mkS_len]; omega) ?_) ?_
        · rw [hsp, List.length_map]; omega
        · rw [hsp]
          exact h _ _ (.mk ((KpH.refl _).push _)) (repF_listP (s := { s₁ with toks := _ }) (fun b => R.fresh .c b) (strs_rep _ _))⟩
theorem startswith_one (l : List Nat) (c : Nat) : Txt.startswith (mkS l) (mkS [c]) = decide (l[0]? = some c) := by
  have : Txt.startswith (mkS l) (mkS [c]) = (decide (0 + (mkS [c]).length ≤ (mkS l).length) && Builtin.Str.subAt (mkS l) (mkS [c]) 0) := rfl
  rw [this, StrLaws.subAt_eq, mkS_len, mkS_len, mkS_cps, mkS_cps]
  cases l with
  | nil => simp
  | cons x r =>
    simp
    rw [Bool.eq_iff_iff]; simp
theorem Meth.startswith {l : List Nat} {c : Nat} {fl f₂ : Fl} : Meth T n "startswith" (.d (.str (mkS l))) fl [(.d (.str (mkS [c])), f₂)] (.bool (decide (l[0]? = some c))) := ⟨fun {A reg s E Q ov} hA r => by
  obtain ⟨t, rfl⟩ := Rep.str_inv r
  refine ⟨"str", "str.startswith", F.plainAttrs_str, F.slot_str_startswith, F.type_str_startswith, typeIs_str _ _ _, fun _ e => (nomatch e), fun s₁ vals k R W rs h => ?_⟩
  cases rs with
  | cons r1 r2 =>
    cases r2
    obtain ⟨u, rfl⟩ := Rep.str_inv r1
    refine SC.startswith ?_
    rw [startswith_one]
    exact h _ _ (.refl _) (repF_bool _)⟩
theorem EvF.dict0 {pos : Pos} : EvF T n env Γ (.Dict [] [] pos) (.dict []) := ⟨fun {A reg s E Q} hA R h => by
  refine wpAny_Dict_empty (h _ _ (.push _ _) ⟨[s.heap.objs.size], ?_, fun a ha => ?_, fun a ha => ?_, ?_⟩)
  · exact Reads.dict (as := []) (bs := []) (Heap.get?_push_size _ rfl) rfl rfl .nil .nil
  · rw [List.mem_singleton.mp ha]; exact R.regs.fresh .c _ (Heap.get?_none_of_le (Nat.le_refl _))
  · rw [List.mem_singleton.mp ha]
    refine ⟨_, Heap.get?_push_size _ rfl, fun es k e => ⟨?_, ⟨rfl, rfl, rfl⟩, fun x hx => by cases e; cases hx⟩⟩
    obtain ⟨mc, ⟨o, _, _, ho, _⟩, _⟩ := R.wd.lim
    have : cStatics < s.heap.objs.size := Heap.lt_size ho
    exact Ne.symm (Nat.ne_of_lt (Nat.lt_trans (by decide : sysModules < cStatics) this))
  · exact ⟨_, [], rfl, rfl, Heap.get?_none_of_le (Nat.le_refl _), fun h => (nomatch h), _, Heap.get?_push_size _ rfl, rfl⟩⟩
end
end Mine
end
section
open PySem PySem.Calls PyProof.Rows PySem.W
set_option linter.all false
namespace Mine
section
variable {T : St} {s₀ s : Shared} {d₀ : Addr → Prop} {env : Env} {own : Own} {Γ Γ' : Gm}
theorem SI.mutateG {x g : Str} {a : Addr} {v v' : Vl} {fl fl' : Fl} {h' : Heap} {o' : Obj} (S : SI T s₀ d₀ env own Γ s) (hm : (x, some (v, fl)) ∈ Γ) (hx : own g = some a) (hgx : g = x ∨ (env.kindOf g = none ∧ ∀ y v z, (y, some (v, .s z)) ∈ Γ → y = x))
    (hp : Put Γ x (some (v', fl')) Γ') (hs : Heap.SameBut a s.heap h')
    (ho' : h'.get? a = some o') (hok : (o'.dict = none ∧ ∀ vs, o'.data ≠ .fields vs) ∧ o'.cls ≠ .type "tuple" ∧ o'.cls ≠ .type "frame")
    (hrep : ∀ val, SlotRep T d₀ env own s.heap x val v fl → SlotRep T d₀ env own h' x val v' fl') :
    SI T s₀ d₀ env own Γ' { s with heap := h' } ∧ Pres T.N env own s { s with heap := h' } := by
  obtain ⟨m, cm, F, hn⟩ := S.frm
  obtain ⟨h1, h2, h3, o, h4, h5, h6, h7⟩ := S.ownNew g a hx
  have F' := F.but hs h1 (Ne.symm h2) (fun y c hc q => h3 y c hc q.symm)
  have chg : ChgH T.N (· = a) s.heap h' := ChgH.of_but hs
  have ntup : ∀ z, z = a → NotTup s.heap z := fun z hz => May.notTup S z (.inr (.inr ⟨g, hz ▸ hx⟩))
  have real : ∀ {y : Str} {u : Vl} {f : Fl}, (y, some (u, f)) ∈ Γ → y ≠ x → y ≠ g := fun {y u f} hy hyx q => by
    rcases hgx with e | ⟨e, _⟩
    · exact hyx (q.trans e)
    · obtain ⟨val', l', _⟩ := hn y _ _ hy
      rw [q] at l'
      rcases l' with ⟨k, _⟩ | ⟨k, _⟩ <;> rw [e] at k <;> cases k
  refine ⟨⟨S.eok, S.cok, by rw [hp.names]; exact S.ok, S.wd0, S.d0, fun y b e => ?_, S.ownInj, m, cm, F', fun y v fl hm' => ?_⟩, ⟨⟨_, _, rfl⟩, chg.mono fun b hb => .inr (.inr ⟨g, by rw [show b = a from hb]; exact hx⟩), fun b e => ?_⟩⟩
  · obtain ⟨g1, g2, g3, o1, g4, g5, g6, g7⟩ := S.ownNew y b e
    by_cases hb : b = a
    · subst hb; exact ⟨g1, g2, g3, o', ho', hok⟩
    · exact ⟨g1, g2, g3, o1, (hs.2 b hb).trans g4, g5, g6, g7⟩
  · rcases hp.cases S.ok.nodup y _ hm' with ⟨rfl, e⟩ | ⟨hyx, hm''⟩
    · cases e
      obtain ⟨val, l, r⟩ := hn _ _ _ hm
      exact ⟨val, l, hrep val r⟩
    · obtain ⟨val, l, r⟩ := hn y v fl hm''
      refine ⟨val, l, ?_⟩
      cases fl with
      | c => exact RepV.chg r chg ntup fun b hb q => hb.2.2.2 g (by rw [show b = a from q]; exact hx)
      | b => exact RepV.chg r chg ntup fun b hb q => hb.2.2 g (by rw [show b = a from q]; exact hx)
      | o =>
        obtain ⟨d1, a1, as1, e1, e2, e3, e4, e5, e6⟩ := r
        have hna : ∀ b ∈ a1 :: as1, ¬ b = a := fun b hb q => by
          rcases List.mem_cons.mp hb with rfl | hb
          · exact real hm'' hyx (S.ownInj y g a (q ▸ e3) hx)
          · exact (e5 b hb).2.2.2 g (q ▸ hx)
        exact ⟨d1, a1, as1, e1, e2, e3, reads_chg chg ntup e4 hna, e5, e6.chg chg hna⟩
      | s z' =>
        refine InstOwn.chg r chg ntup (fun b hb _ => ⟨hb, fun q => hb.2.2.2 g (by rw [show b = a from q]; exact hx)⟩) (fun z b q hz => ⟨q, fun e => ?_⟩)
        have hzx := S.ownInj z g a (by rw [← show b = a from e]; exact q) hx
        rcases hz with rfl | hz
        · exact real hm'' hyx hzx
        · rcases hgx with e' | ⟨_, e'⟩
          · obtain ⟨val', l', _⟩ := hn x _ _ hm
            rw [hzx, e'] at hz
            rcases l' with ⟨k, _⟩ | ⟨k, _⟩ <;> rw [hz] at k <;> cases k
          · exact hyx (e' y v z' hm'')
  · by_cases hb : b = a
    · subst hb
      have e' : h'.get? b = none := e
      rw [ho'] at e'; cases e'
    · exact (hs.2 b hb).symm.trans e
theorem SI.mutate {x : Str} {a : Addr} {d d' : PyData} {h' : Heap} {o' : Obj} (S : SI T s₀ d₀ env own Γ s) (hm : (x, some (.d d, .o)) ∈ Γ) (hx : own x = some a) (hp : Put Γ x (some (.d d', .o)) Γ') (hs : Heap.SameBut a s.heap h')
    (ho' : h'.get? a = some o') (hok : (o'.dict = none ∧ ∀ vs, o'.data ≠ .fields vs) ∧ o'.cls ≠ .type "tuple" ∧ o'.cls ≠ .type "frame")
    (hrep : ∃ as, Reads h' (.ref a) d' (a :: as) ∧ (∀ b ∈ as, regOf d₀ env own .c b) ∧ Dok T.w h' (a :: as)) :
    SI T s₀ d₀ env own Γ' { s with heap := h' } ∧ Pres T.N env own s { s with heap := h' } :=
  S.mutateG hm hx (.inl rfl) hp hs ho' hok fun val ⟨dd, a', as, e1, e2, e3, _⟩ => by
    rw [hx] at e3; cases e3
    obtain ⟨as', r1, r2, r3⟩ := hrep
    exact ⟨d', a, as', rfl, e2, hx, by rw [e2]; exact r1, r2, r3⟩
theorem SI.freeze {x : Str} {d : PyData} (S : SI T s₀ d₀ env own Γ s) (hm : (x, some (.d d, .o)) ∈ Γ) (hp : Put Γ x (some (.d d, .c)) Γ') : SI T s₀ d₀ env (fun y => if y = x then none else own y) Γ' s := by
  obtain ⟨m, cm, F, hn⟩ := S.frm
  have sub : ∀ y a, (if y = x then none else own y) = some a → y ≠ x ∧ own y = some a := fun y a e => by
    by_cases hy : y = x
    · simp [hy] at e
    · rw [if_neg hy] at e; exact ⟨hy, e⟩
  have up : ∀ fl a, regOf d₀ env own fl a → regOf d₀ env (fun y => if y = x then none else own y) fl a := regOf_le (fun a ha y q => ha y (sub y a q).2)
  refine ⟨S.eok, S.cok, by rw [hp.names]; exact S.ok, S.wd0, S.d0, fun y b e => S.ownNew y b (sub y b e).2, fun y z b e1 e2 => S.ownInj y z b (sub y b e1).2 (sub z b e2).2, m, cm, F, fun y v fl hm' => ?_⟩
  rcases hp.cases S.ok.nodup y _ hm' with ⟨rfl, e⟩ | ⟨hyx, hm''⟩
  · cases e
    obtain ⟨val, l, dd, a, as, e1, e2, e3, e4, e5, e6⟩ := hn _ _ _ hm
    cases e1
    refine ⟨val, l, a :: as, e4, fun b hb => ?_, e6⟩
    rcases List.mem_cons.mp hb with rfl | hb
    · obtain ⟨h1, h2, h3, _⟩ := S.ownNew _ _ e3
      exact ⟨fun hd => S.d0 _ hd h1, h2, h3, fun z q => (sub z _ q).1 (S.ownInj z _ _ (sub z _ q).2 e3)⟩
    · exact up .c b (e5 b hb)
  · obtain ⟨val, l, r⟩ := hn y v fl hm''
    refine ⟨val, l, ?_⟩
    cases fl with
    | c => exact RepV.mono r (up .c)
    | b => exact RepV.mono r (up .b)
    | o =>
      obtain ⟨d1, a1, as1, e1, e2, e3, e4, e5, e6⟩ := r
      exact ⟨d1, a1, as1, e1, e2, by simp only [if_neg hyx]; exact e3, e4, fun b hb => up .c b (e5 b hb), e6⟩
    | s z' =>
      refine InstOwn.chg (X := fun _ => False) r (.of_kp (.refl _ : KpH 0 _ _)) (fun _ q => q.elim) (fun b hb _ => ⟨up .c b hb, id⟩) (fun z b q hz => ⟨?_, id⟩)
      have hzx : z ≠ x := by
        rcases hz with rfl | hz
        · exact hyx
        · obtain ⟨val', l', _⟩ := hn x _ _ hm
          rintro rfl
          rcases l' with ⟨k, _⟩ | ⟨k, _⟩ <;> rw [hz] at k <;> cases k
      simp only [if_neg hzx]; exact q
end
section
variable {T : St} {n : Nat} {env : Env} {Γ Γ' : Gm} {Q : Fw → Gm → Prop}
theorem EvF.neg {e : PySem.Expr} {i : Int} {pos : Pos} {fl : Fl} (x : Ev T n env Γ e (.d (.int i)) fl) : EvF T n env Γ (.UnaryOp .USub e pos) (.int (-i)) := ⟨fun hA R h =>
  UnaryOp_ (x.run hA R fun val s₁ k₁ r₁ => by
    obtain ⟨t, rfl⟩ := Rep.int_inv r₁
    exact PyProof.Rows.neg_int (h _ _ (k₁.trans (.tok _ _)) (repF_int ..)))⟩
theorem Ex.freeze {x : Str} {d : PyData} {ss : List Stmt} (hm : (x, some (.d d, .o)) ∈ Γ) (hp : Put Γ x (some (.d d, .c)) Γ') (h : Ex T n env Γ' ss Q) : Ex T n env Γ ss Q := ⟨fun {A s₀ d₀ own s E QQ} hA S hq hx => by
  have sub : ∀ y a, (if y = x then none else own y) = some a → own y = some a := fun y a e => by
    by_cases hy : y = x
    · simp [hy] at e
    · rw [if_neg hy] at e; exact e
  have hP : ∀ {s'}, Pres T.N env (fun y => if y = x then none else own y) s s' → Pres T.N env own s s' := fun p =>
    ⟨p.1, p.2.1.mono fun b hb => hb.elim .inl fun hb => .inr (hb.elim .inl fun ⟨y, q⟩ => .inr ⟨y, sub y b q⟩), p.2.2⟩
  have hO : ∀ {own'}, OwnLe (fun y => if y = x then none else own y) own' s → OwnLe own own' s := fun o y a e => (o y a e).elim (fun ⟨z, q⟩ => .inl ⟨z, sub z a q⟩) .inr
  exact h.run hA (S.freeze hm hp) (fun f f' s' Γ'' own'' S'' p o fr q => hq f f' s' Γ'' own'' S'' (hP p) (hO o) fr q) fun k e s' Γ'' own'' S'' p o er q => hx k e s' Γ'' own'' S'' (hP p) (hO o) er q⟩
theorem own_list {s₀ s : Shared} {d₀ : Addr → Prop} {own : Own} {x : Str} {xs : List PyData} (S : SI T s₀ d₀ env own Γ s) (hm : (x, some (.d (.list xs), .o)) ∈ Γ) :
    ∃ a vs o k, NameIs env s.heap x (.ref a) ∧ own x = some a ∧ s.heap.get? a = some o ∧ o.cls = .type "list" ∧ o.dict = none ∧ o.data = .seq (List.toArray vs) k ∧ RepAll T.w (regOf d₀ env own .c) s.heap vs xs := by
  obtain ⟨m, cm, F, hn⟩ := S.frm
  obtain ⟨val, l, dd, a, as, e1, e2, e3, e4, e5, e6⟩ := hn _ _ _ hm
  cases e1
  subst e2
  obtain ⟨h1, h2, h3, o, h4, h5, h6, h7⟩ := S.ownNew x a e3
  cases e4 with
  | @list _ o' vs k _ _ ho hc hd hall =>
    rw [h4] at ho; cases ho
    exact ⟨a, vs.toList, o, k, l.is F, e3, h4, hc, h5.1, by simpa using hd, as, hall, e5, fun b hb => e6 b (.tail _ hb)⟩
theorem SI.relist {s₀ s : Shared} {d₀ : Addr → Prop} {own : Own} {x : Str} {xs xs' : List PyData} {vs' : List Value} {a : Addr} {h' : Heap} {o' : Obj} {k' : Nat} (S : SI T s₀ d₀ env own Γ s) (hm : (x, some (.d (.list xs), .o)) ∈ Γ) (hx : own x = some a)
    (hp : Put Γ x (some (.d (.list xs'), .o)) Γ') (hs : Heap.SameBut a s.heap h') (ho' : h'.get? a = some o') (hc : o'.cls = .type "list") (hdi : o'.dict = none) (hd : o'.data = .seq (List.toArray vs') k')
    (hall : RepAll T.w (regOf d₀ env own .c) s.heap vs' xs') : SI T s₀ d₀ env own Γ' { s with heap := h' } ∧ Pres T.N env own s { s with heap := h' } := by
  have chg : ChgH T.N (· = a) s.heap h' := ChgH.of_but hs
  have ntup : ∀ z, z = a → NotTup s.heap z := fun z hz => May.notTup S z (.inr (.inr ⟨x, hz ▸ hx⟩))
  obtain ⟨as, r1, r2, r3⟩ := RepAll.chg hall chg ntup fun b hb q => hb.2.2.2 x (by rw [show b = a from q]; exact hx)
  refine S.mutate hm hx hp hs ho' ⟨⟨hdi, fun vs q => by rw [hd] at q; cases q⟩, by rw [hc]; simp, by rw [hc]; simp⟩ ⟨as, .list ho' hc hd (by simpa using r1), r2, fun b hb => ?_⟩
  rcases List.mem_cons.mp hb with rfl | hb
  · exact ⟨o', ho', fun es k q => by rw [hd] at q; cases q⟩
  · exact r3 b hb
theorem ld_name {A : Around} {E : Value → Shared → Prop} {s : Shared} {x : Str} {pos : Pos} {v : Value} {Q : Value → Shared → Prop} (hk : env.scope.kind = .function) (hv : NameIs env s.heap x v) (hd : (x == ("__debug__" : Str)) = false) (h : Q v s) : wpAny T.M A (eval (.Name x pos) env) Q E s := by
  rcases hv with ⟨k, m, hn, hv⟩ | ⟨k, c, hc, hv⟩
  · exact wpAny_Name (wpAny_loadName_local hk k hn hv h) hd
  · exact wpAny_Name (wpAny_loadName_cell hk k hc hv h) hd
theorem Ex1.append {x : Str} {p₁ p₂ p₃ p₄ : Pos} {e : PySem.Expr} {xs : List PyData} {d : PyData} (hm : (x, some (.d (.list xs), .o)) ∈ Γ) (he : Ev T n env Γ e (.d d) .c) (hp : Put Γ x (some (.d (.list (xs ++ [d])), .o)) Γ') (hz : xs.length ≤ sizeLine)
    (hbase : attributeBase (.Name x p₁) "append" env (eval (.Name x p₁) env) = eval (.Name x p₁) env) (hstar : starEach [e] env = [(false, eval e env)]) (hline : (p₂.endLine == p₃.line) = true)
    (hsw : swapsWith (.Call (.Attribute (.Name x p₁) "append" p₂) [e] [] p₃) none p₄.line env = pure false) (hq : Q .next Γ') :
    Ex1 T n env Γ (.Expr (.Call (.Attribute (.Name x p₁) "append" p₂) [e] [] p₃) p₄) Q := ⟨fun {A s₀ d₀ own s E QQ} hA S h hx => by
  have htr : backTo p₃ (starEach [e] env) = [(false, eval e env)] := by rw [hstar]; rfl
  refine wpAny_Expr (wpAny_Call_append hbase (by rw [htr]; rfl) hline htr ?_) (by unfold interactive; rw [S.eok.kind]; rfl) hsw
  obtain ⟨a, vs, o, k, l, hxa, ho, hc, hdi, hdat, hall⟩ := own_list S hm
  refine ld_name S.eok.kind l (S.ok.nodebug x (List.mem_map_of_mem (f := fun p : Str × Slot => p.1) hm)) ?_
  refine ⟨a, List.toArray vs, rfl, ⟨o, k, ho, hc, hdi, hdat⟩, he.run hA S.rd fun y s₂ k₂ r₂ => ?_⟩
  have S₂ := S.kp k₂
  have ho₂ := k₂.h.get ho (by rw [hc]; simp)
  refine list_append_plainL ⟨o, k, ho₂, hc, hdi, hdat⟩ (fun h' hl' hs => ?_) (by rw [List.size_toArray, hall.length]; exact hz)
  obtain ⟨o', k', g1, g2, g3, g4⟩ := hl'
  obtain ⟨S', P'⟩ := S₂.relist hm hxa hp hs g1 g2 g3 (by simpa using g4) ((hall.keeps k₂.h).snoc r₂)
  exact h _ .next _ Γ' own S' ((Pres.of_kp k₂).trans (.refl _ _) P') (.refl _ _) trivial hq⟩
end
end Mine
end
section
open PySem PyProof.Rows PySem.W
set_option linter.all false
namespace Mine
def optS : Option (List Nat) → PyData
  | none => .none
  | some x => .str (mkS x)
def kRoot : List Nat := (Str.ofString "root").cps.toList
def kUp : List Nat := (Str.ofString "up").cps.toList
def kSh : List Nat := (Str.ofString "share").cps.toList
def kNm : List Nat := (Str.ofString "name").cps.toList
def stD : Stp → PyData
  | .root => .tuple [.str (mkS kRoot)]
  | .up => .tuple [.str (mkS kUp)]
  | .sh x => .tuple [.str (mkS kSh), .str (mkS x)]
  | .nm x => .tuple [.str (mkS kNm), .str (mkS x)]
theorem still_st (s : Stp) : still (stD s) = true := by cases s <;> rfl
theorem still_sts : ∀ ss : List Stp, stillAll (ss.map stD) = true
  | [] => rfl
  | s :: ss => by simp [stillAll, still_st, still_sts ss]
def NoSh : Stp → Prop
  | .sh _ => False
  | _ => True
theorem cut_last {α : Type} (l : List α) : pyCut none (some (-1)) l = l.dropLast := by
  unfold pyCut clampTo
  simp only [show (-1 : Int) < 0 by omega, if_true, List.drop_zero, Nat.sub_zero]
  rw [List.dropLast_eq_take]
  congr 1
  omega
theorem cut_head (l : List Nat) : pyCut none (some 1) l = l.take 1 := by
  unfold pyCut clampTo
  simp only [show ¬ (1 : Int) < 0 by omega, if_false, List.drop_zero, Nat.sub_zero]
  by_cases h : 1 ≤ l.length
  · rw [show min (Int.toNat 1) l.length = 1 by simp; omega]
  · rw [List.take_of_length_le (by omega), List.take_of_length_le (by omega)]
theorem sum_le {B : Nat} : ∀ xs : List (List Nat), (∀ x ∈ xs, x.length ≤ B) → (xs.map (·.length)).sum ≤ xs.length * B
  | [], _ => by simp
  | x :: xs, h => by
    have h1 := h x (.head _)
    have h2 := sum_le xs fun y hy => h y (.tail _ hy)
    simp only [List.map_cons, List.sum_cons, List.length_cons, Nat.add_mul, Nat.one_mul]
    omega
theorem icat_len (xs : List (List Nat)) : (List.intercalate [47] xs).length ≤ (xs.map (·.length)).sum + xs.length := by
  match xs with
  | [] => simp [List.intercalate]
  | [x] => rw [icat_single]; simp
  | x :: y :: r =>
    have := icat_len (y :: r)
    rw [icat_cons]
    simp only [List.length_append, List.map_cons, List.sum_cons, List.length_cons, List.length_nil] at this ⊢
    omega
def cellsL (ns : List Int) (start many : Nat) (far : Bool) : List Int := if far then (List.range 60).map fun k : Nat => ns.getD start 0 + 13 * (k : Int) * (k : Int) else (List.range many).map fun k : Nat => ns.getD (start + k) 0
theorem digits_is (c : Nat) : decide (c ∈ (Str.ofString "0123456789").cps.toList) = isDig c := by
  have : (Str.ofString "0123456789").cps.toList = List.range' 48 10 := by decide +kernel
  rw [this, Bool.eq_iff_iff]
  simp only [isDig, Bool.and_eq_true, decide_eq_true_eq, List.mem_range'_1]
  omega
end Mine
end
section
open PySem PyProof.Rows PySem.W
set_option linter.all false
namespace Mine
def IsSgn (c : Nat) : Prop := ∃ i, i < 94 ∧ c = sgn i
def idx (c : Nat) : Nat := if c < 37 then c - 32 else c - 33
theorem idx_sgn {i : Nat} (h : i < 94) : idx (sgn i) = i := by
  unfold idx sgn; split <;> split <;> omega
def escG (c : Nat) : List Nat := [126, 48 + idx c / 10, 48 + idx c % 10]
theorem signs_at {c : Nat} (h : IsSgn c) : idx c < 94 ∧ signsL[idx c]? = some c ∧ ∀ k, k < idx c → signsL[k]? ≠ some c := by
  obtain ⟨i, hi, rfl⟩ := h
  rw [idx_sgn hi]
  refine ⟨hi, signsL_at hi, fun k hk e => ?_⟩
  rw [signsL_at (by omega)] at e
  have := congrArg idx (Option.some.inj e)
  rw [idx_sgn (by omega), idx_sgn hi] at this
  omega
theorem decS_one {i : Int} (h0 : 0 ≤ i) (h1 : i < 10) : decS i = [48 + i.toNat] := by
  have h : ∀ k : Fin 10, decS (k.val : Int) = [48 + k.val] := by decide +kernel
  have := h ⟨i.toNat, by omega⟩
  rwa [show ((i.toNat : Nat) : Int) = i by omega] at this
theorem readL_escG {c : Nat} (h : IsSgn c) (r : List Nat) : readL (escG c ++ r) = (readL r).map (c :: ·) := by
  have h1 := (signs_at h).1
  obtain ⟨i, hi, rfl⟩ := h
  rw [idx_sgn hi] at h1
  have e : val2 (48 + idx (sgn i) / 10) (48 + idx (sgn i) % 10) = i := by rw [idx_sgn hi]; unfold val2; omega
  have := readL_esc (p := 48 + idx (sgn i) / 10) (q := 48 + idx (sgn i) % 10) r (by simp only [isDig, Bool.and_eq_true, decide_eq_true_eq]; rw [idx_sgn hi]; omega) (by simp only [isDig, Bool.and_eq_true, decide_eq_true_eq]; rw [idx_sgn hi]; omega) (by rw [e]; omega)
  rw [e] at this
  exact this
theorem escG_free (c : Nat) : 47 ∉ escG c := by
  unfold escG
  simp only [List.mem_cons, List.not_mem_nil, or_false, not_or]
  omega
def cel (c : Int) : Nat → Int
  | 0 => c
  | k + 1 => cel c k / 2
def mstG (nm : List Nat) (cell : Int) (k : Nat) : Bool := decide (nm.getD k 0 ∈ [47, 126]) || ((decide (k = 0) && decide (nm.getD 0 0 = 64)) || (cel cell k % 2 == 1))
def pcG (nm : List Nat) (cell : Int) (k : Nat) : List Nat := if mstG nm cell k then escG (nm.getD k 0) else [nm.getD k 0]
def partTo (nm : List Nat) (cell : Int) (i : Nat) : List Nat := (List.range i).flatMap (pcG nm cell)
def part0 (nm : List Nat) (cell : Int) : List Nat := partTo nm cell nm.length
def partL (nm : List Nat) (cell : Int) : List Nat := if part0 nm cell = [46] ∨ part0 nm cell = [46, 46] then escG 46 ++ (part0 nm cell).drop 1 else part0 nm cell
theorem partTo_succ (nm : List Nat) (cell : Int) (i : Nat) : partTo nm cell (i + 1) = partTo nm cell i ++ pcG nm cell i := by
  unfold partTo; rw [List.range_succ]; simp
theorem pcG_len (nm : List Nat) (cell : Int) (k : Nat) : 1 ≤ (pcG nm cell k).length ∧ (pcG nm cell k).length ≤ 3 := by
  unfold pcG; split <;> simp [escG]
theorem partTo_len (nm : List Nat) (cell : Int) : ∀ i, i ≤ (partTo nm cell i).length ∧ (partTo nm cell i).length ≤ 3 * i
  | 0 => by simp [partTo]
  | i + 1 => by
    have := partTo_len nm cell i
    have := pcG_len nm cell i
    rw [partTo_succ, List.length_append]; omega
theorem partL_len (nm : List Nat) (cell : Int) : (partL nm cell).length ≤ 3 * nm.length + 3 := by
  have := partTo_len nm cell nm.length
  unfold partL
  split
  · simp only [List.length_append, List.length_drop, escG, List.length_cons, List.length_nil]
    unfold part0; omega
  · unfold part0; omega
theorem readL_pcG {nm : List Nat} {cell : Int} {k : Nat} (hs : ∀ c ∈ nm, IsSgn c) (hk : k < nm.length) (r : List Nat) : readL (pcG nm cell k ++ r) = (readL r).map (nm.getD k 0 :: ·) := by
  have hm : nm.getD k 0 ∈ nm := by simp [List.getD, hk]
  unfold pcG
  cases h : mstG nm cell k with
  | true => exact readL_escG (hs _ hm) r
  | false =>
    simp only [Bool.false_eq_true, if_false, List.singleton_append]
    refine readL_plain (fun e => ?_) r
    unfold mstG at h
    rw [e] at h
    simp at h
theorem readL_part0 {nm : List Nat} {cell : Int} (hs : ∀ c ∈ nm, IsSgn c) : readL (part0 nm cell) = some nm := by
  have key : ∀ ks : List Nat, (∀ k ∈ ks, k < nm.length) → readL (ks.flatMap (pcG nm cell)) = some (ks.map (nm.getD · 0)) := by
    intro ks
    induction ks with
    | nil => intro _; simp [readL]
    | cons k ks ih =>
      intro h
      rw [List.flatMap_cons, readL_pcG hs (h k (.head _)), ih fun x hx => h x (.tail _ hx)]
      rfl
  unfold part0 partTo
  rw [key _ fun k hk => List.mem_range.mp hk, range_getD]
theorem sgn46 : IsSgn 46 := ⟨13, by decide, by decide⟩
theorem readL_part {nm : List Nat} {cell : Int} (hs : ∀ c ∈ nm, IsSgn c) : readL (partL nm cell) = some nm := by
  have h0 := readL_part0 (cell := cell) hs
  unfold partL
  split
  · rename_i h
    rcases h with h | h
    · rw [h] at h0
      rw [h, readL_escG sgn46]
      rw [← h0]; rfl
    · rw [h] at h0
      rw [h, readL_escG sgn46]
      rw [← h0]; rfl
  · exact h0
theorem part_free {nm : List Nat} {cell : Int} : 47 ∉ partL nm cell := by
  have h0 : 47 ∉ part0 nm cell := by
    intro h
    obtain ⟨k, hk, h⟩ := List.mem_flatMap.mp h
    unfold pcG at h
    split at h
    · exact escG_free _ h
    · rename_i hm
      rw [List.mem_singleton] at h
      unfold mstG at hm
      rw [← h] at hm
      simp at hm
  unfold partL
  split
  · intro h
    rcases List.mem_append.mp h with h | h
    · exact escG_free _ h
    · exact h0 (List.mem_of_mem_drop h)
  · exact h0
theorem part_head {nm : List Nat} {cell : Int} (hne : nm ≠ []) : ∃ c, (partL nm cell)[0]? = some c ∧ c ≠ 64 := by
  have h0 : ∃ c, (part0 nm cell)[0]? = some c ∧ c ≠ 64 := by
    have hl : 0 < nm.length := List.length_pos_iff.mpr hne
    have e : part0 nm cell = pcG nm cell 0 ++ (((List.range (nm.length - 1)).map (· + 1)).flatMap (pcG nm cell)) := by
      unfold part0 partTo
      obtain ⟨k, hk⟩ : ∃ k, nm.length = k + 1 := ⟨nm.length - 1, by omega⟩
      rw [hk, List.range_succ_eq_map, List.flatMap_cons]
      rfl
    rw [e]
    unfold pcG
    cases hm : mstG nm cell 0 with
    | true => exact ⟨126, rfl, by decide⟩
    | false =>
      refine ⟨nm.getD 0 0, rfl, fun q => ?_⟩
      unfold mstG at hm
      rw [q] at hm
      simp at hm
  unfold partL
  split
  · exact ⟨126, rfl, by decide⟩
  · exact h0
theorem part_ne {nm : List Nat} {cell : Int} : partL nm cell ≠ [46] ∧ partL nm cell ≠ [46, 46] := by
  unfold partL
  split
  · exact ⟨fun h => by simp [escG] at h, fun h => by simp [escG] at h⟩
  · rename_i h; exact not_or.mp h
theorem part_nil {nm : List Nat} {cell : Int} (hne : nm ≠ []) : partL nm cell ≠ [] := fun e => by
  obtain ⟨c, h, _⟩ := part_head (cell := cell) hne
  rw [e] at h; cases h
theorem readL_free : ∀ {l : List Nat}, 126 ∉ l → readL l = some l
  | [], _ => rfl
  | c :: r, h => by
    simp only [List.mem_cons, not_or] at h
    rw [readL_plain (fun e => h.1 e.symm), readL_free h.2]; rfl
theorem nameBy_sgn (c : Int) : ∀ x ∈ nameBy c, IsSgn x := by
  unfold nameBy
  split
  · have h : (c / 3 % 14).toNat < 14 := by omega
    generalize (c / 3 % 14).toNat = k at h
    have key : ∀ k : Fin 14, ∀ x ∈ oddL.getD k.val [], idx x < 94 ∧ x = sgn (idx x) := by decide +kernel
    intro x hx
    exact ⟨_, key ⟨k, h⟩ x hx⟩
  · intro x hx
    obtain ⟨k, _, rfl⟩ := List.mem_map.mp hx
    exact ⟨_, by omega, rfl⟩
def shareL (nm : List Nat) (cell : Int) : List Nat := if cell % 2 = 1 ∧ 47 ∉ nm ∧ 126 ∉ nm then 64 :: nm else 64 :: partL nm (cell / 2)
theorem share_read {nm : List Nat} {cell : Int} (hs : ∀ c ∈ nm, IsSgn c) : ∃ r, shareL nm cell = 64 :: r ∧ 47 ∉ r ∧ readL r = some nm := by
  unfold shareL
  split
  · rename_i h; exact ⟨nm, rfl, h.2.1, readL_free h.2.2⟩
  · exact ⟨_, rfl, part_free, readL_part hs⟩

def stepOf (p : List Nat) : Option (List Stp) :=
  if p = [] ∨ p = [46] then some [] else if p = [46, 46] then some [.up] else if p.getD 0 0 = 64 then (readL (p.drop 1)).map fun x => [.sh x] else (readL p).map fun x => [.nm x]
theorem stepOf_share {r nm : List Nat} (h : readL r = some nm) : stepOf (64 :: r) = some [.sh nm] := by
  unfold stepOf
  rw [if_neg (by simp), if_neg (by simp), if_pos (by rfl)]
  simp [h]
theorem stepOf_part {nm : List Nat} {cell : Int} (hs : ∀ c ∈ nm, IsSgn c) (hne : nm ≠ []) : stepOf (partL nm cell) = some [.nm nm] := by
  unfold stepOf
  obtain ⟨c, h1, h2⟩ := part_head (cell := cell) hne
  have h3 : (partL nm cell).getD 0 0 = c := by simp [List.getD, h1]
  rw [if_neg (by simp [part_nil hne, part_ne.1]), if_neg part_ne.2, if_neg (by rw [h3]; exact h2), readL_part hs]
  rfl
def cellP (names : List (List Nat)) (c : Int) : List Nat × List Stp :=
  if c % 8 < 2 then ((if c % 8 = 0 then [] else [46]), []) else if c % 8 < 4 then ([46, 46], [.up])
  else if c % 8 = 4 ∧ 0 < names.length then (shareL (names.getD (c / 8 % names.length).toNat []) (c / 8 / 5 % 128), [.sh (names.getD (c / 8 % names.length).toNat [])])
  else (partL (nameBy (c / 8)) (c / 8 / 3 % 4096), [.nm (nameBy (c / 8))])
def pthParts (names : List (List Nat)) (cs : List Int) : List (List Nat) := cs.map fun c => (cellP names c).1
def pthSteps (names : List (List Nat)) (cs : List Int) : List Stp := cs.flatMap fun c => (cellP names c).2
def pthLine (names : List (List Nat)) (cs : List Int) : List Nat := List.intercalate [47] (pthParts names cs)
def rootOf (line : List Nat) : List Stp := if line[0]? = some 47 then [.root] else []
theorem cellP_step {names : List (List Nat)} {c : Int} (hs : ∀ x ∈ names, ∀ y ∈ x, IsSgn y) : stepOf (cellP names c).1 = some (cellP names c).2 ∧ 47 ∉ (cellP names c).1 := by
  unfold cellP
  split
  · split
    · exact ⟨by simp [stepOf], by simp⟩
    · exact ⟨by simp [stepOf], by simp⟩
  split
  · exact ⟨by simp [stepOf], by simp⟩
  split
  · rename_i h
    have hm : names.getD (c / 8 % names.length).toNat [] ∈ names := by
      have : (c / 8 % names.length).toNat < names.length := by
        have h1 := Int.emod_nonneg (c / 8) (b := (names.length : Int)) (by omega)
        have h2 := Int.emod_lt_of_pos (c / 8) (b := (names.length : Int)) (by omega)
        omega
      simp [List.getD, this]
    obtain ⟨r, h1, h2, h3⟩ := share_read (cell := c / 8 / 5 % 128) (hs _ hm)
    rw [h1]
    exact ⟨stepOf_share h3, by simp [h2]⟩
  · exact ⟨stepOf_part (nameBy_sgn _) (nameBy_ne _), part_free⟩
theorem pth_ok {names : List (List Nat)} {cs : List Int} (hs : ∀ x ∈ names, ∀ y ∈ x, IsSgn y) : (∀ p ∈ splitC 47 (pthLine names cs), (stepOf p).isSome = true) ∧ (splitC 47 (pthLine names cs)).flatMap (fun p => (stepOf p).getD []) = pthSteps names cs := by
  unfold pthLine
  by_cases h : pthParts names cs = []
  · have hc : cs = [] := by simpa [pthParts] using h
    subst hc
    simp [pthParts, List.intercalate, splitC, pthSteps, stepOf]
  · rw [icat_splitC 47 _ h]
    · unfold pthParts pthSteps
      refine ⟨fun p hp => ?_, ?_⟩
      · obtain ⟨c, _, rfl⟩ := List.mem_map.mp hp
        rw [(cellP_step hs).1]; rfl
      · rw [List.flatMap_map]
        congr 1
        funext c
        rw [(cellP_step hs).1]; rfl
    · intro p hp
      obtain ⟨c, _, rfl⟩ := List.mem_map.mp hp
      exact (cellP_step hs).2
theorem splitC_part (c : Nat) : ∀ l : List Nat, ∀ p ∈ splitC c l, p.length ≤ l.length
  | [], p, hp => by simp [splitC] at hp; subst hp; simp
  | x :: r, p, hp => by
    have ih := splitC_part c r
    have hne := splitC_ne c r
    unfold splitC at hp
    generalize splitC c r = sp at hp ih hne
    cases sp with
    | nil => exact absurd rfl hne
    | cons y ys =>
      split at hp
      · rcases List.mem_cons.mp hp with rfl | hp
        · simp
        · have := ih p hp; simp; omega
      · simp only [List.headD_cons, List.tail_cons] at hp
        rcases List.mem_cons.mp hp with rfl | hp
        · have := ih y (.head _); simp; omega
        · have := ih p (.tail _ hp); simp; omega
def brkL : List (List Nat) := [[126], [97, 126, 57], [64, 126], [126, 57, 52, 98], [64, 97, 126, 120], [126, 49, 47], [46, 46, 126], [64, 126, 126]]
end Mine
end
section
set_option linter.all false
namespace Mine
abbrev Row := List Nat × List Stp
abbrev PM := List (List Nat × List (List Nat))
def PMf (pm : PM) : List Nat → List (List Nat) := fun x => (pm.lookup x).getD []
def rdy (pm : PM) : Stp → Bool
  | .sh x => (pm.lookup x).isSome
  | _ => true
def ready (pm : PM) (ss : List Stp) : Bool := ss.all (rdy pm)
def passF : List Row → PM → List Row → PM × List Row
  | [], pm, left => (pm, left)
  | (x, ss) :: r, pm, left => if ready pm ss then passF r (pm ++ [(x, ss.foldl (go (PMf pm)) [])]) left else passF r pm (left ++ [(x, ss)])
def loopF : Nat → List Row → PM → PM
  | 0, _, pm => pm
  | k + 1, rows, pm => loopF k (passF rows pm []).2 (passF rows pm []).1
theorem loopF_nil : ∀ (k : Nat) (pm : PM), loopF k [] pm = pm
  | 0, _ => rfl
  | k + 1, pm => loopF_nil k pm

theorem lookup_mem {α : Type} {l : List (List Nat × α)} {x : List Nat} {a : α} (h : l.lookup x = some a) : (x, a) ∈ l := by
  induction l with
  | nil => simp at h
  | cons p l ih =>
    rw [show p = (p.1, p.2) from rfl, List.lookup_cons] at h
    by_cases hx : x = p.1
    · simp [hx] at h; subst h; rw [hx]; exact .head _
    · have : (x == p.1) = false := by simpa using hx
      rw [this] at h; exact .tail _ (ih h)
theorem lookup_some {α : Type} {l : List (List Nat × α)} {x : List Nat} (h : x ∈ l.map (·.1)) : (l.lookup x).isSome = true := by
  induction l with
  | nil => cases h
  | cons p l ih =>
    rw [show p = (p.1, p.2) from rfl, List.lookup_cons]
    by_cases hx : x = p.1
    · simp [hx]
    · have : (x == p.1) = false := by simpa using hx
      rw [this]
      rw [List.map_cons] at h
      exact ih ((List.mem_cons.mp h).resolve_left hx)
theorem lookup_none {α : Type} {l : List (List Nat × α)} {x : List Nat} (h : x ∉ l.map (·.1)) : l.lookup x = none := by
  cases q : l.lookup x with
  | none => rfl
  | some a => exact absurd (List.mem_map_of_mem (f := fun p : List Nat × α => p.1) (lookup_mem q)) h
theorem lookup_snoc {α : Type} {l : List (List Nat × α)} {x y : List Nat} {a : α} (h : x ∉ l.map (·.1)) : (l ++ [(x, a)]).lookup y = if y = x then some a else l.lookup y := by
  induction l with
  | nil =>
    rw [List.nil_append, List.lookup_cons]
    by_cases hy : y = x
    · simp [hy]
    · have : (y == x) = false := by simpa using hy
      rw [this]; simp [hy]
  | cons p l ih =>
    simp only [List.map_cons, List.mem_cons, not_or] at h
    rw [List.cons_append, show p = (p.1, p.2) from rfl, List.lookup_cons, List.lookup_cons, ih h.2]
    by_cases hy : y = p.1
    · subst hy; simp [Ne.symm h.1]
    · have : (y == p.1) = false := by simpa using hy
      rw [this]

structure Acy (ref : List Nat → List (List Nat)) (rk : List Nat → Nat) (rows : List Row) : Prop where
  nodup : (rows.map (·.1)).Nodup
  val : ∀ x ss, (x, ss) ∈ rows → ref x = ss.foldl (go ref) []
  sh : ∀ x ss, (x, ss) ∈ rows → ∀ y, .sh y ∈ ss → y ∈ rows.map (·.1) ∧ rk y < rk x
structure Inv (ref : List Nat → List (List Nat)) (rows0 rows : List Row) (pm : PM) : Prop where
  sub : ∀ r ∈ rows, r ∈ rows0
  nodup : (pm.map (·.1) ++ rows.map (·.1)).Nodup
  all : ∀ x ∈ rows0.map (·.1), x ∈ pm.map (·.1) ++ rows.map (·.1)
  val : ∀ x p, (x, p) ∈ pm → p = ref x
  keys : ∀ x ∈ pm.map (·.1), x ∈ rows0.map (·.1)
  len : pm.length + rows.length = rows0.length
theorem passF_pos {x : List Nat} {ss : List Stp} {r left : List Row} {pm : PM} (h : ready pm ss = true) : passF ((x, ss) :: r) pm left = passF r (pm ++ [(x, ss.foldl (go (PMf pm)) [])]) left := by
  rw [passF, if_pos h]
theorem passF_neg {x : List Nat} {ss : List Stp} {r left : List Row} {pm : PM} (h : ready pm ss = false) : passF ((x, ss) :: r) pm left = passF r pm (left ++ [(x, ss)]) := by
  rw [passF, if_neg (by rw [h]; decide)]
theorem fold_ref {P P' : List Nat → List (List Nat)} : ∀ (ss : List Stp) (p : List (List Nat)), (∀ y, .sh y ∈ ss → P y = P' y) → ss.foldl (go P) p = ss.foldl (go P') p
  | [], _, _ => rfl
  | s :: ss, p, h => by
    have : go P p s = go P' p s := by
      cases s with
      | sh y => exact h y (.head _)
      | _ => rfl
    rw [List.foldl_cons, List.foldl_cons, this]
    exact fold_ref ss _ fun y hy => h y (.tail _ hy)
theorem ready_sh {pm : PM} {ss : List Stp} (h : ready pm ss = true) {y : List Nat} (hy : .sh y ∈ ss) : (pm.lookup y).isSome = true := List.all_eq_true.mp h _ hy
section
variable {ref : List Nat → List (List Nat)} {rk : List Nat → Nat} {rows0 : List Row}
theorem Inv.put (A : Acy ref rk rows0) {x : List Nat} {ss : List Stp} {r left : List Row} {pm : PM} (I : Inv ref rows0 (left ++ (x, ss) :: r) pm) (hr : ready pm ss = true) :
    x ∉ pm.map (·.1) ∧ ss.foldl (go (PMf pm)) [] = ref x ∧ Inv ref rows0 (left ++ r) (pm ++ [(x, ss.foldl (go (PMf pm)) [])]) := by
  have hm : (x, ss) ∈ rows0 := I.sub _ (by simp)
  have hnd := I.nodup
  rw [List.map_append, List.map_cons] at hnd
  have hv : ss.foldl (go (PMf pm)) [] = ref x := by
    rw [A.val x ss hm]
    refine fold_ref ss [] fun y hy => ?_
    obtain ⟨p, hp⟩ := Option.isSome_iff_exists.mp (ready_sh hr hy)
    show (pm.lookup y).getD [] = ref y
    rw [hp]
    exact I.val y p (lookup_mem hp)
  have hx : x ∉ pm.map (·.1) := fun hx => by
    have := (List.nodup_append.mp hnd).2.2 x hx x (by simp)
    exact this rfl
  refine ⟨hx, hv, ⟨fun q hq => I.sub q (by rcases List.mem_append.mp hq with h | h <;> simp [h]), ?_, fun y hy => ?_, fun y p hp => ?_, fun y hy => ?_, ?_⟩⟩
  · rw [List.map_append, List.map_append]
    have hperm : (pm.map (·.1) ++ (left.map (·.1) ++ x :: r.map (·.1))).Perm (pm.map (·.1) ++ [x] ++ (left.map (·.1) ++ r.map (·.1))) := by
      rw [List.append_assoc]
      exact List.Perm.append_left _ (List.perm_middle.trans (by simp))
    exact hperm.nodup_iff.mp hnd
  · have := I.all y hy
    simp only [List.map_append, List.map_cons, List.mem_append, List.mem_cons, List.map_nil, List.not_mem_nil, or_false] at this ⊢
    rcases this with h | h | h | h <;> simp [h]
  · rcases List.mem_append.mp hp with hp | hp
    · exact I.val y p hp
    · simp only [List.mem_singleton, Prod.mk.injEq] at hp
      rw [hp.1, hp.2]; exact hv
  · rw [List.map_append] at hy
    rcases List.mem_append.mp hy with hy | hy
    · exact I.keys y hy
    · simp only [List.map_cons, List.map_nil, List.mem_singleton] at hy
      rw [hy]; exact List.mem_map_of_mem (f := fun q : Row => q.1) hm
  · have := I.len
    simp only [List.length_append, List.length_cons, List.length_nil] at this ⊢; omega
theorem Inv.skip {x : List Nat} {ss : List Stp} {r left : List Row} {pm : PM} (I : Inv ref rows0 (left ++ (x, ss) :: r) pm) : Inv ref rows0 ((left ++ [(x, ss)]) ++ r) pm := by
  rw [List.append_assoc]; exact I
theorem pass_inv (A : Acy ref rk rows0) : ∀ (rows : List Row) (pm : PM) (left : List Row), Inv ref rows0 (left ++ rows) pm → Inv ref rows0 (passF rows pm left).2 (passF rows pm left).1
  | [], pm, left, I => by simpa [passF] using I
  | (x, ss) :: r, pm, left, I => by
    unfold passF
    split
    · rename_i h; exact pass_inv A r _ left (I.put A h).2.2
    · exact pass_inv A r pm _ I.skip
theorem pass_len : ∀ (rows : List Row) (pm : PM) (left : List Row), (passF rows pm left).2.length ≤ left.length + rows.length
  | [], _, left => by simp [passF]
  | (x, ss) :: r, pm, left => by
    unfold passF
    split
    · have := pass_len r (pm ++ [(x, ss.foldl (go (PMf pm)) [])]) left
      simp only [List.length_cons]; omega
    · have := pass_len r pm (left ++ [(x, ss)])
      simp only [List.length_cons, List.length_append, List.length_nil] at this ⊢; omega
theorem pass_stuck : ∀ (rows : List Row) (pm : PM) (left : List Row), (passF rows pm left).2.length = left.length + rows.length → ∀ r ∈ rows, ready pm r.2 = false
  | [], _, _, _, r, hr => nomatch hr
  | (x, ss) :: r, pm, left, h, q, hq => by
    unfold passF at h
    split at h
    · have := pass_len r (pm ++ [(x, ss.foldl (go (PMf pm)) [])]) left
      simp only [List.length_cons] at h; omega
    · rename_i hn
      rcases List.mem_cons.mp hq with rfl | hq
      · simpa using hn
      · refine pass_stuck r pm (left ++ [(x, ss)]) ?_ q hq
        simp only [List.length_cons, List.length_append, List.length_nil] at h ⊢; omega
theorem min_rank (rk : List Nat → Nat) : ∀ (rows : List Row), rows ≠ [] → ∃ r ∈ rows, ∀ q ∈ rows, rk r.1 ≤ rk q.1
  | [], h => absurd rfl h
  | [r], _ => ⟨r, .head _, fun q hq => by rw [List.mem_singleton.mp hq]; exact Nat.le_refl _⟩
  | r :: r' :: rows, _ => by
    obtain ⟨m, hm, hle⟩ := min_rank rk (r' :: rows) (by simp)
    by_cases h : rk r.1 ≤ rk m.1
    · exact ⟨r, .head _, fun q hq => (List.mem_cons.mp hq).elim (fun e => by rw [e]; exact Nat.le_refl _) fun hq => Nat.le_trans h (hle q hq)⟩
    · exact ⟨m, .tail _ hm, fun q hq => (List.mem_cons.mp hq).elim (fun e => by rw [e]; omega) (hle q)⟩
theorem pass_moves (A : Acy ref rk rows0) {rows : List Row} {pm : PM} (I : Inv ref rows0 rows pm) (hne : rows ≠ []) : (passF rows pm []).2.length < rows.length := by
  have h1 := pass_len rows pm []
  simp only [List.length_nil, Nat.zero_add] at h1
  refine Nat.lt_of_le_of_ne h1 fun he => ?_
  have hst := pass_stuck rows pm [] (by simpa using he)
  obtain ⟨⟨x, ss⟩, hr, hle⟩ := min_rank rk rows hne
  have hnr := hst _ hr
  have : ready pm ss = true := List.all_eq_true.mpr fun s hs => by
    cases s with
    | sh y =>
      obtain ⟨hy, hlt⟩ := A.sh x ss (I.sub _ hr) y hs
      refine lookup_some ?_
      rcases List.mem_append.mp (I.all y hy) with h | h
      · exact h
      · obtain ⟨q, hq, rfl⟩ := List.mem_map.mp h
        have := hle q hq
        simp only at this; omega
    | _ => rfl
  rw [this] at hnr; cases hnr
theorem loop_inv (A : Acy ref rk rows0) : ∀ (k : Nat) (rows : List Row) (pm : PM), rows.length ≤ k → Inv ref rows0 rows pm → Inv ref rows0 [] (loopF k rows pm)
  | 0, rows, pm, hk, I => by
    have : rows = [] := List.eq_nil_of_length_eq_zero (Nat.le_zero.mp hk)
    subst this; exact I
  | k + 1, rows, pm, hk, I => by
    by_cases hne : rows = []
    · subst hne; rw [loopF_nil]; exact I
    · have := pass_moves A I hne
      exact loop_inv A k _ _ (by omega) (pass_inv A rows pm [] (by simpa using I))
theorem inv0 (A : Acy ref rk rows0) : Inv ref rows0 rows0 [] := ⟨fun _ h => h, by simpa using A.nodup, fun x hx => by simpa using hx, fun _ _ h => (nomatch h), fun _ h => (by cases h), by simp⟩
theorem loop_look (A : Acy ref rk rows0) : (∀ x ∈ rows0.map (·.1), (loopF rows0.length rows0 []).lookup x = some (ref x)) ∧ (∀ x, x ∉ rows0.map (·.1) → (loopF rows0.length rows0 []).lookup x = none) ∧ ((loopF rows0.length rows0 []).map (·.1)).Nodup ∧ (loopF rows0.length rows0 []).length = rows0.length := by
  have I := loop_inv A rows0.length rows0 [] (Nat.le_refl _) (inv0 A)
  refine ⟨fun x hx => ?_, fun x hx => lookup_none fun q => hx (I.keys x q), ?_, by simpa using I.len⟩
  · have := I.all x hx
    simp only [List.map_nil, List.append_nil] at this
    obtain ⟨p, hp⟩ := Option.isSome_iff_exists.mp (lookup_some this)
    rw [hp, I.val x p (lookup_mem hp)]
  · simpa using I.nodup
end
end Mine
end
section
open PySem PyProof.Rows PySem.W
set_option linter.all false
namespace Mine
def stepsOf (line : List Nat) : List Stp := rootOf line ++ (splitC 47 line).flatMap (fun q => (stepOf q).getD [])
def okLine (line : List Nat) : Prop := ∀ q ∈ splitC 47 line, (stepOf q).isSome = true
def Gn (x : List Nat) : Prop := x ≠ [] ∧ x.length ≤ 43 ∧ ∀ c ∈ x, IsSgn c
theorem nameBy_gd (c : Int) : Gn (nameBy c) := ⟨nameBy_ne c, nameBy_len c, nameBy_sgn c⟩
theorem Gn.asc {x : List Nat} (h : Gn x) : Asc x := fun c hc => by
  obtain ⟨i, hi, rfl⟩ := h.2.2 c hc
  exact sgn_lt hi
def rootL (p : List (List Nat)) : List Nat := 47 :: List.intercalate [47] (p.map wr)
def byL (x : List Nat) (r : List (List Nat)) : List Nat := List.intercalate [47] ((64 :: wr x) :: r.map wr)
theorem steps_icat {qs : List (List Nat × List Stp)} (hq : qs ≠ []) (h : ∀ q ∈ qs, 47 ∉ q.1 ∧ stepOf q.1 = some q.2) :
    okLine (List.intercalate [47] (qs.map (·.1))) ∧ (splitC 47 (List.intercalate [47] (qs.map (·.1)))).flatMap (fun q => (stepOf q).getD []) = qs.flatMap (·.2) := by
  have e := icat_splitC 47 (qs.map (·.1)) (by simpa using hq) (fun p hp => by obtain ⟨q, hq, rfl⟩ := List.mem_map.mp hp; exact (h q hq).1)
  unfold okLine
  rw [e]
  refine ⟨fun p hp => ?_, ?_⟩
  · obtain ⟨q, hq, rfl⟩ := List.mem_map.mp hp
    rw [(h q hq).2]; rfl
  · clear hq e
    induction qs with
    | nil => rfl
    | cons q qs ih =>
      rw [List.map_cons, List.flatMap_cons, List.flatMap_cons, ih fun q hq => h q (.tail _ hq), (h q (.head _)).2]; rfl
theorem wr_sum {p : List (List Nat)} (hp : ∀ x ∈ p, Gn x) : ((p.map wr).map (·.length)).sum ≤ p.length * 129 := by
  have := sum_le (B := 129) (p.map wr) fun x hx => by
    obtain ⟨y, hy, rfl⟩ := List.mem_map.mp hx
    have h1 := wr_len y; have h2 := (hp y hy).2.1; omega
  rwa [List.length_map] at this
structure Tells (ref : List Nat → List (List Nat)) (nms : List (List Nat)) (p : List (List Nat)) (t : List Nat) : Prop where
  ok : okLine t
  len : t.length ≤ 100000
  n : (stepsOf t).length ≤ 1000
  fst : ∃ s r, stepsOf t = s :: r ∧ (s = .root ∨ ∃ x, s = .sh x)
  to : (stepsOf t).foldl (go ref) [] = p
  sh : ∀ y, .sh y ∈ stepsOf t → y ∈ nms
def bStep (ref : List Nat → List (List Nat)) (p : List (List Nat)) (b : Option (List Nat) × Nat) (x : List Nat) : Option (List Nat) × Nat :=
  if b.2 < (ref x).length ∧ p.take (ref x).length = ref x then (some x, (ref x).length) else b
def bestF (ref : List Nat → List (List Nat)) (p : List (List Nat)) (nms : List (List Nat)) : Option (List Nat) × Nat := nms.foldl (bStep ref p) (none, 0)
def tellL (ref : List Nat → List (List Nat)) (p : List (List Nat)) (b : Option (List Nat) × Nat) : List Nat :=
  match b.1 with
  | none => rootL p
  | some x => byL x (p.drop b.2)
def BOk (ref : List Nat → List (List Nat)) (p nms : List (List Nat)) (b : Option (List Nat) × Nat) : Prop := b = (none, 0) ∨ ∃ x ∈ nms, b = (some x, (ref x).length) ∧ p.take (ref x).length = ref x
theorem bStep_ok {ref : List Nat → List (List Nat)} {p nms : List (List Nat)} {b : Option (List Nat) × Nat} {x : List Nat} (hb : BOk ref p nms b) (hx : x ∈ nms) : BOk ref p nms (bStep ref p b x) := by
  unfold bStep
  split
  · rename_i h; exact .inr ⟨x, hx, rfl, h.2⟩
  · exact hb
theorem bestF_ok {ref : List Nat → List (List Nat)} {p nms : List (List Nat)} : BOk ref p nms (bestF ref p nms) := by
  unfold bestF
  have : ∀ (l : List (List Nat)) b, (∀ x ∈ l, x ∈ nms) → BOk ref p nms b → BOk ref p nms (l.foldl (bStep ref p) b) := by
    intro l
    induction l with
    | nil => exact fun b _ h => h
    | cons x l ih => exact fun b hl h => ih _ (fun y hy => hl y (.tail _ hy)) (bStep_ok h (hl x (.head _)))
  exact this nms _ (fun _ h => h) (.inl rfl)
abbrev Tab := List (List Nat × List Nat)
def rowsOf (tab : Tab) : List Row := tab.map fun q => (q.1, stepsOf q.2)
theorem rowsOf_keys (tab : Tab) : (rowsOf tab).map (·.1) = tab.map (·.1) := by unfold rowsOf; rw [List.map_map]; rfl
def innerOf (c : Int) : List Int := (List.range (if c / 5 % 8 = 3 then 60 else (c % 5).toNat)).map fun k : Nat => c / 5 + 37 * (k : Int) * (1 + c % 7)
theorem inner_len (c : Int) : (innerOf c).length ≤ 60 := by
  unfold innerOf; rw [List.length_map, List.length_range]; split <;> omega
def rowSteps (tab : Tab) (c : Int) : List Stp := rootOf (pthLine (tab.map (·.1)) (innerOf c)) ++ pthSteps (tab.map (·.1)) (innerOf c)
def rowStep (S : Tab × PM) (c : Int) : Tab × PM :=
  if (S.1.lookup (nameBy (c / 5))).isSome then S
  else (S.1 ++ [(nameBy (c / 5), pthLine (S.1.map (·.1)) (innerOf c))], S.2 ++ [(nameBy (c / 5), (rowSteps S.1 c).foldl (go (PMf S.2)) [])])
structure RI (S : Tab × PM) : Prop where
  keys : S.1.map (·.1) = S.2.map (·.1)
  nodup : (S.1.map (·.1)).Nodup
  gd : ∀ x ∈ S.1.map (·.1), Gn x
  line : ∀ x l, (x, l) ∈ S.1 → okLine l ∧ l.length ≤ 10000 ∧ (stepsOf l).length ≤ 61
  val : ∀ x l, (x, l) ∈ S.1 → PMf S.2 x = (stepsOf l).foldl (go (PMf S.2)) []
  sh : ∀ x l, (x, l) ∈ S.1 → ∀ y, .sh y ∈ stepsOf l → y ∈ S.1.map (·.1) ∧ (S.1.map (·.1)).idxOf y < (S.1.map (·.1)).idxOf x
  pgd : ∀ x p, (x, p) ∈ S.2 → (∀ y ∈ p, Gn y) ∧ p.length ≤ 61 * S.2.length
theorem cellW_sh {names : List (List Nat)} {c : Int} {s : Stp} (h : s ∈ (cellP names c).2) : (∀ y, s = .sh y → y ∈ names) ∧ (∀ y, s = .nm y → Gn y) ∧ s ≠ .root := by
  unfold cellP at h
  split at h
  · cases h
  split at h
  · simp at h; subst h; exact ⟨fun _ e => (nomatch e), fun _ e => (nomatch e), fun e => (nomatch e)⟩
  split at h
  · rename_i hc
    simp at h; subst h
    refine ⟨fun y e => ?_, fun _ e => (nomatch e), fun e => (nomatch e)⟩
    cases e
    have : (c / 8 % names.length).toNat < names.length := by
      have h1 := Int.emod_nonneg (c / 8) (b := (names.length : Int)) (by omega)
      have h2 := Int.emod_lt_of_pos (c / 8) (b := (names.length : Int)) (by omega)
      omega
    simp [List.getD, this]
  · simp at h; subst h
    exact ⟨fun _ e => (nomatch e), fun y e => (by cases e; exact nameBy_gd _), fun e => (nomatch e)⟩
theorem cellW_one (names : List (List Nat)) (c : Int) : (cellP names c).2.length ≤ 1 := by
  unfold cellP
  split
  · simp
  split
  · simp
  split <;> simp
theorem cellW_len {names : List (List Nat)} (hn : ∀ x ∈ names, Gn x) (c : Int) : (cellP names c).1.length ≤ 140 := by
  unfold cellP
  split
  · split <;> simp
  split
  · simp
  split
  · rename_i hc
    have hm : names.getD (c / 8 % names.length).toNat [] ∈ names := by
      have : (c / 8 % names.length).toNat < names.length := by
        have h1 := Int.emod_nonneg (c / 8) (b := (names.length : Int)) (by omega)
        have h2 := Int.emod_lt_of_pos (c / 8) (b := (names.length : Int)) (by omega)
        omega
      simp [List.getD, this]
    have h1 := (hn _ hm).2.1
    simp only
    unfold shareL
    split
    · rw [List.length_cons]; omega
    · rw [List.length_cons]
      have := partL_len (names.getD (c / 8 % names.length).toNat []) (c / 8 / 5 % 128 / 2)
      omega
  · have := partL_len (nameBy (c / 8)) (c / 8 / 3 % 4096)
    have := nameBy_len (c / 8)
    simp only; omega
theorem flatW_len (names : List (List Nat)) : ∀ cs : List Int, (pthSteps names cs).length ≤ cs.length
  | [] => by simp [pthSteps]
  | c :: cs => by
    have h1 := flatW_len names cs
    have h2 := cellW_one names c
    unfold pthSteps at h1 ⊢
    rw [List.flatMap_cons, List.length_append, List.length_cons]; omega
theorem rootW_one (l : List Nat) : (rootOf l).length ≤ 1 := by unfold rootOf; split <;> simp
theorem row_line {tab : Tab} (hg : ∀ x ∈ tab.map (·.1), Gn x) (c : Int) : okLine (pthLine (tab.map (·.1)) (innerOf c)) ∧ stepsOf (pthLine (tab.map (·.1)) (innerOf c)) = rowSteps tab c ∧ (pthLine (tab.map (·.1)) (innerOf c)).length ≤ 10000 ∧ (rowSteps tab c).length ≤ 61 ∧
    (∀ y, .sh y ∈ rowSteps tab c → y ∈ tab.map (·.1)) ∧ (∀ y, .nm y ∈ rowSteps tab c → Gn y) := by
  have h := pth_ok (names := tab.map (·.1)) (cs := innerOf c) (fun x hx => (hg x hx).2.2)
  have hi := inner_len c
  have hmem : ∀ s ∈ rowSteps tab c, s = .root ∨ ∃ c', s ∈ (cellP (tab.map (·.1)) c').2 := fun s hs => by
    rcases List.mem_append.mp hs with hs | hs
    · unfold rootOf at hs
      split at hs
      · simp at hs; exact .inl hs
      · cases hs
    · obtain ⟨c', _, hc⟩ := List.mem_flatMap.mp hs
      exact .inr ⟨c', hc⟩
  refine ⟨h.1, by unfold stepsOf rowSteps; rw [h.2], ?_, ?_, fun y hy => ?_, fun y hy => ?_⟩
  · have h1 := icat_len (pthParts (tab.map (·.1)) (innerOf c))
    have h2 := sum_le (B := 140) (pthParts (tab.map (·.1)) (innerOf c)) fun x hx => by
      obtain ⟨c', _, rfl⟩ := List.mem_map.mp hx
      exact cellW_len hg c'
    have h3 : (pthParts (tab.map (·.1)) (innerOf c)).length = (innerOf c).length := List.length_map ..
    unfold pthLine; omega
  · have h1 := flatW_len (tab.map (·.1)) (innerOf c)
    have h2 := rootW_one (pthLine (tab.map (·.1)) (innerOf c))
    unfold rowSteps; rw [List.length_append]; omega
  · rcases hmem _ hy with e | ⟨c', hc⟩
    · cases e
    · exact (cellW_sh hc).1 y rfl
  · rcases hmem _ hy with e | ⟨c', hc⟩
    · cases e
    · exact (cellW_sh hc).2.1 y rfl
theorem fold_gd {P : List Nat → List (List Nat)} : ∀ (ss : List Stp) (p : List (List Nat)), (∀ y, .sh y ∈ ss → ∀ x ∈ P y, Gn x) → (∀ y, .nm y ∈ ss → Gn y) → (∀ x ∈ p, Gn x) → ∀ x ∈ ss.foldl (go P) p, Gn x
  | [], p, _, _, hp => hp
  | s :: ss, p, h1, h2, hp => by
    refine fold_gd ss (go P p s) (fun y hy => h1 y (.tail _ hy)) (fun y hy => h2 y (.tail _ hy)) fun x hx => ?_
    cases s with
    | root => cases hx
    | up => exact hp x ((List.dropLast_sublist p).subset hx)
    | sh y => exact h1 y (.head _) x hx
    | nm y =>
      rcases List.mem_append.mp hx with hx | hx
      · exact hp x hx
      · rw [List.mem_singleton.mp hx]; exact h2 y (.head _)
theorem fold_lenW (P : List Nat → List (List Nat)) (B : Nat) : ∀ (ss : List Stp) (p : List (List Nat)), (∀ y, .sh y ∈ ss → (P y).length ≤ B) → ∀ k, p.length ≤ B + k → (ss.foldl (go P) p).length ≤ B + k + ss.length
  | [], p, _, k, hp => hp
  | s :: ss, p, h, k, hp => by
    have h1 : (go P p s).length ≤ B + (k + 1) := by
      cases s with
      | root => simp [go]
      | up => simp only [go, List.length_dropLast]; omega
      | sh y => have := h y (.head _); simp only [go]; omega
      | nm y => simp only [go, List.length_append, List.length_singleton]; omega
    have := fold_lenW P B ss (go P p s) (fun y hy => h y (.tail _ hy)) (k + 1) h1
    rw [List.foldl_cons, List.length_cons]; omega
theorem PMf_mem {pm : PM} {y : List Nat} (h : y ∈ pm.map (·.1)) : (y, PMf pm y) ∈ pm := by
  obtain ⟨p, hp⟩ := Option.isSome_iff_exists.mp (lookup_some h)
  have := lookup_mem hp
  unfold PMf; rw [hp]; exact this
theorem RI.nil : RI ([], []) := ⟨rfl, by simp, by simp, by simp, by simp, by simp, by simp⟩
theorem RI.step {S : Tab × PM} (I : RI S) (c : Int) : RI (rowStep S c) := by
  obtain ⟨tab, pm⟩ := S
  unfold rowStep
  simp only
  split
  · exact I
  rename_i hno
  have hx : nameBy (c / 5) ∉ tab.map (·.1) := fun h => hno (lookup_some h)
  have hxp : nameBy (c / 5) ∉ pm.map (·.1) := by rw [← I.keys]; exact hx
  obtain ⟨r1, r2, r3, r4, r5, r6⟩ := row_line I.gd c
  generalize hxx : nameBy (c / 5) = x at hx hxp
  have hgx : Gn x := hxx ▸ nameBy_gd _
  generalize pthLine (tab.map (·.1)) (innerOf c) = line at r1 r2 r3
  generalize rowSteps tab c = ss at r2 r4 r5 r6
  have hP : ∀ y ∈ tab.map (·.1), PMf (pm ++ [(x, ss.foldl (go (PMf pm)) [])]) y = PMf pm y := fun y hy => by
    unfold PMf
    rw [lookup_snoc hxp, if_neg fun e : y = x => hx (e ▸ hy)]
  have hPx : PMf (pm ++ [(x, ss.foldl (go (PMf pm)) [])]) x = ss.foldl (go (PMf pm)) [] := by
    unfold PMf
    rw [lookup_snoc hxp, if_pos rfl]; rfl
  have hk : pm.map (·.1) = tab.map (·.1) := I.keys.symm
  have hpgd : ∀ y ∈ tab.map (·.1), (∀ z ∈ PMf pm y, Gn z) ∧ (PMf pm y).length ≤ 61 * pm.length := fun y hy => I.pgd y _ (PMf_mem (hk ▸ hy))
  have hmap : (tab ++ [(x, line)]).map (·.1) = tab.map (·.1) ++ [x] := by rw [List.map_append]; rfl
  refine ⟨?_, ?_, ?_, ?_, ?_, ?_, ?_⟩ <;> simp only
  · rw [hmap, List.map_append, hk]; rfl
  · rw [hmap, List.nodup_append]
    refine ⟨I.nodup, by simp, fun a ha b hb => ?_⟩
    rw [List.mem_singleton.mp hb]
    exact fun e => hx (e ▸ ha)
  · rw [hmap]
    intro y hy
    rcases List.mem_append.mp hy with hy | hy
    · exact I.gd y hy
    · rw [List.mem_singleton.mp hy]; exact hgx
  · intro y l hy
    rcases List.mem_append.mp hy with hy | hy
    · exact I.line y l hy
    · simp only [List.mem_singleton, Prod.mk.injEq] at hy
      rw [hy.2]; exact ⟨r1, r3, by rw [r2]; exact r4⟩
  · intro y l hy
    rcases List.mem_append.mp hy with hy | hy
    · have hm := List.mem_map_of_mem (f := fun q : List Nat × List Nat => q.1) hy
      rw [hP y hm, I.val y l hy]
      exact (fold_ref _ _ fun z hz => hP z (I.sh y l hy z hz).1).symm
    · simp only [List.mem_singleton, Prod.mk.injEq] at hy
      rw [hy.1, hy.2, hPx, r2]
      exact (fold_ref _ _ fun z hz => hP z (r5 z hz)).symm
  · intro y l hy z hz
    rw [hmap]
    rcases List.mem_append.mp hy with hy | hy
    · have hm := List.mem_map_of_mem (f := fun q : List Nat × List Nat => q.1) hy
      have h := I.sh y l hy z hz
      rw [List.idxOf_append, if_pos h.1, List.idxOf_append, if_pos hm]
      exact ⟨List.mem_append_left _ h.1, h.2⟩
    · simp only [List.mem_singleton, Prod.mk.injEq] at hy
      rw [hy.2, r2] at hz
      have h := r5 z hz
      rw [hy.1, List.idxOf_append, if_pos h, List.idxOf_append, if_neg hx]
      exact ⟨List.mem_append_left _ h, by have h9 : (tab.map (·.1)).idxOf z < (tab.map (·.1)).length := List.idxOf_lt_length_iff.mpr h; omega⟩
  · intro y p hy
    rw [List.length_append, List.length_singleton]
    rcases List.mem_append.mp hy with hy | hy
    · have h1 := I.pgd y p hy
      have h2 : p.length ≤ 61 * pm.length := h1.2
      exact ⟨h1.1, by omega⟩
    · simp only [List.mem_singleton, Prod.mk.injEq] at hy
      rw [hy.2]
      refine ⟨fold_gd ss [] (fun z hz => (hpgd z (r5 z hz)).1) r6 (by simp), ?_⟩
      have := fold_lenW (PMf pm) (61 * pm.length) ss [] (fun z hz => (hpgd z (r5 z hz)).2) 0 (by simp)
      omega
theorem rowStep_len (S : Tab × PM) (c : Int) : (rowStep S c).1.length ≤ S.1.length + 1 ∧ (rowStep S c).2.length ≤ S.2.length + 1 := by
  unfold rowStep; split <;> simp
theorem RI.all (cs : List Int) : ∀ S : Tab × PM, RI S → RI (cs.foldl rowStep S) ∧ (cs.foldl rowStep S).1.length ≤ S.1.length + cs.length ∧ (cs.foldl rowStep S).2.length ≤ S.2.length + cs.length := by
  induction cs with
  | nil => exact fun S I => ⟨I, by simp, by simp⟩
  | cons c cs ih =>
    intro S I
    obtain ⟨h1, h2, h3⟩ := ih _ (I.step c)
    have := rowStep_len S c
    rw [List.foldl_cons, List.length_cons]
    exact ⟨h1, by omega, by omega⟩
theorem RI.acy {S : Tab × PM} (I : RI S) {tab' : Tab} (hp : tab'.Perm S.1) : Acy (PMf S.2) (fun x => (S.1.map (·.1)).idxOf x) (rowsOf tab') := by
  have hk : (rowsOf tab').map (·.1) = tab'.map (·.1) := rowsOf_keys tab'
  have hpm : (tab'.map (·.1)).Perm (S.1.map (·.1)) := hp.map _
  have hmem : ∀ x ss, (x, ss) ∈ rowsOf tab' → ∃ l, (x, l) ∈ S.1 ∧ ss = stepsOf l := fun x ss h => by
    obtain ⟨q, hq, e⟩ := List.mem_map.mp h
    cases e
    exact ⟨q.2, hp.mem_iff.mp hq, rfl⟩
  refine ⟨by rw [hk]; exact hpm.nodup_iff.mpr I.nodup, fun x ss h => ?_, fun x ss h y hy => ?_⟩
  · obtain ⟨l, hl, rfl⟩ := hmem x ss h
    exact I.val x l hl
  · obtain ⟨l, hl, rfl⟩ := hmem x ss h
    have := I.sh x l hl y hy
    rw [hk]
    exact ⟨hpm.mem_iff.mpr this.1, this.2⟩
def mixPos (c : Int) (k : Nat) : Nat := ((c + (k : Int) * (c / 41 + 31 * (k : Int))) % ((k : Int) + 1)).toNat
def mixTo (c : Int) (xs : List (List Nat)) : Nat → List (List Nat)
  | 0 => []
  | k + 1 => (mixTo c xs k).take (mixPos c k) ++ xs.getD k [] :: (mixTo c xs k).drop (mixPos c k)
theorem mixPos_le (c : Int) (k : Nat) : mixPos c k ≤ k := by
  unfold mixPos
  have h1 := Int.emod_nonneg (c + (k : Int) * (c / 41 + 31 * (k : Int))) (b := (k : Int) + 1) (by omega)
  have h2 := Int.emod_lt_of_pos (c + (k : Int) * (c / 41 + 31 * (k : Int))) (b := (k : Int) + 1) (by omega)
  omega
theorem mixTo_perm (c : Int) (xs : List (List Nat)) : ∀ k, k ≤ xs.length → (mixTo c xs k).Perm (xs.take k)
  | 0, _ => by simp [mixTo]
  | k + 1, h => by
    have ih := mixTo_perm c xs k (by omega)
    have e : xs.take (k + 1) = xs.take k ++ [xs.getD k []] := by
      rw [List.take_succ, List.getElem?_eq_getElem (by omega)]
      simp [List.getD, show k < xs.length by omega]
    rw [e, mixTo]
    refine List.perm_middle.trans ?_
    rw [List.take_append_drop]
    exact ((List.Perm.cons _ ih).trans (List.perm_append_comm (l₁ := [xs.getD k []]) (l₂ := xs.take k)))
theorem mixTo_len (c : Int) (xs : List (List Nat)) (k : Nat) (h : k ≤ xs.length) : (mixTo c xs k).length = k := by
  rw [(mixTo_perm c xs k h).length_eq, List.length_take]; omega
def mixF (c : Int) (xs : List (List Nat)) : List (List Nat) := mixTo c xs xs.length
theorem mixF_perm (c : Int) (xs : List (List Nat)) : (mixF c xs).Perm xs := by
  have := mixTo_perm c xs xs.length (Nat.le_refl _)
  rwa [List.take_length] at this
def mixT (c : Int) (tab : Tab) : Tab := (mixF c (tab.map (·.1))).map fun x => (x, (tab.lookup x).getD [])
theorem lookup_nodup {α : Type} {l : List (List Nat × α)} {x : List Nat} {a : α} (hn : (l.map (·.1)).Nodup) (h : (x, a) ∈ l) : l.lookup x = some a := by
  induction l with
  | nil => cases h
  | cons p l ih =>
    simp only [List.map_cons, List.nodup_cons] at hn
    rw [show p = (p.1, p.2) from rfl, List.lookup_cons]
    rcases List.mem_cons.mp h with rfl | h
    · simp
    · have : (x == p.1) = false := by
        simp only [beq_eq_false_iff_ne, ne_eq]
        rintro rfl
        exact hn.1 (List.mem_map.mpr ⟨_, h, rfl⟩)
      rw [this]; exact ih hn.2 h
theorem look_self {tab : Tab} (hn : (tab.map (·.1)).Nodup) : (tab.map (·.1)).map (fun x => (x, (tab.lookup x).getD [])) = tab := by
  rw [List.map_map]
  conv => rhs; rw [← List.map_id tab]
  refine List.map_congr_left fun q hq => ?_
  show (q.1, (tab.lookup q.1).getD []) = q
  rw [lookup_nodup hn (a := q.2) hq]; rfl
theorem mixT_perm (c : Int) {tab : Tab} (hn : (tab.map (·.1)).Nodup) : (mixT c tab).Perm tab := by
  have := (mixF_perm c (tab.map (·.1))).map (fun x => (x, (tab.lookup x).getD []))
  rw [look_self hn] at this
  exact this
theorem mixT_keys (c : Int) (tab : Tab) : (mixT c tab).map (·.1) = mixF c (tab.map (·.1)) := by
  unfold mixT; rw [List.map_map]
  exact List.map_id _
end Mine
end
section
open PySem PyProof.Rows PySem.W
set_option linter.all false
namespace Mine
theorem RI.snoc {tab : Tab} {pm : PM} (I : RI (tab, pm)) {x line : List Nat} {ss : List Stp} (hx : x ∉ tab.map (·.1)) (hgx : Gn x) (r1 : okLine line) (r2 : stepsOf line = ss) (r3 : line.length ≤ 10000) (r4 : ss.length ≤ 61) (r5 : ∀ y, .sh y ∈ ss → y ∈ tab.map (·.1)) (r6 : ∀ y, .nm y ∈ ss → Gn y) :
    RI (tab ++ [(x, line)], pm ++ [(x, ss.foldl (go (PMf pm)) [])]) := by
  have hxp : x ∉ pm.map (·.1) := by rw [← I.keys]; exact hx
  have hP : ∀ y ∈ tab.map (·.1), PMf (pm ++ [(x, ss.foldl (go (PMf pm)) [])]) y = PMf pm y := fun y hy => by
    unfold PMf
    rw [lookup_snoc hxp, if_neg fun e : y = x => hx (e ▸ hy)]
  have hPx : PMf (pm ++ [(x, ss.foldl (go (PMf pm)) [])]) x = ss.foldl (go (PMf pm)) [] := by
    unfold PMf
    rw [lookup_snoc hxp, if_pos rfl]; rfl
  have hk : pm.map (·.1) = tab.map (·.1) := I.keys.symm
  have hpgd : ∀ y ∈ tab.map (·.1), (∀ z ∈ PMf pm y, Gn z) ∧ (PMf pm y).length ≤ 61 * pm.length := fun y hy => I.pgd y _ (PMf_mem (hk ▸ hy))
  have hmap : (tab ++ [(x, line)]).map (·.1) = tab.map (·.1) ++ [x] := by rw [List.map_append]; rfl
  refine ⟨?_, ?_, ?_, ?_, ?_, ?_, ?_⟩ <;> simp only
  · rw [hmap, List.map_append, hk]; rfl
  · rw [hmap, List.nodup_append]
    refine ⟨I.nodup, by simp, fun a ha b hb => ?_⟩
    rw [List.mem_singleton.mp hb]
    exact fun e => hx (e ▸ ha)
  · rw [hmap]
    intro y hy
    rcases List.mem_append.mp hy with hy | hy
    · exact I.gd y hy
    · rw [List.mem_singleton.mp hy]; exact hgx
  · intro y l hy
    rcases List.mem_append.mp hy with hy | hy
    · exact I.line y l hy
    · simp only [List.mem_singleton, Prod.mk.injEq] at hy
      rw [hy.2]; exact ⟨r1, r3, by rw [r2]; exact r4⟩
  · intro y l hy
    rcases List.mem_append.mp hy with hy | hy
    · have hm := List.mem_map_of_mem (f := fun q : List Nat × List Nat => q.1) hy
      rw [hP y hm, I.val y l hy]
      exact (fold_ref _ _ fun z hz => hP z (I.sh y l hy z hz).1).symm
    · simp only [List.mem_singleton, Prod.mk.injEq] at hy
      rw [hy.1, hy.2, hPx, r2]
      exact (fold_ref _ _ fun z hz => hP z (r5 z hz)).symm
  · intro y l hy z hz
    rw [hmap]
    rcases List.mem_append.mp hy with hy | hy
    · have hm := List.mem_map_of_mem (f := fun q : List Nat × List Nat => q.1) hy
      have h := I.sh y l hy z hz
      rw [List.idxOf_append, if_pos h.1, List.idxOf_append, if_pos hm]
      exact ⟨List.mem_append_left _ h.1, h.2⟩
    · simp only [List.mem_singleton, Prod.mk.injEq] at hy
      rw [hy.2, r2] at hz
      have h := r5 z hz
      rw [hy.1, List.idxOf_append, if_pos h, List.idxOf_append, if_neg hx]
      exact ⟨List.mem_append_left _ h, by have h9 : (tab.map (·.1)).idxOf z < (tab.map (·.1)).length := List.idxOf_lt_length_iff.mpr h; omega⟩
  · intro y p hy
    rw [List.length_append, List.length_singleton]
    rcases List.mem_append.mp hy with hy | hy
    · have h1 := I.pgd y p hy
      have h2 : p.length ≤ 61 * pm.length := h1.2
      exact ⟨h1.1, by omega⟩
    · simp only [List.mem_singleton, Prod.mk.injEq] at hy
      rw [hy.2]
      refine ⟨fold_gd ss [] (fun z hz => (hpgd z (r5 z hz)).1) r6 (by simp), ?_⟩
      have := fold_lenW (PMf pm) (61 * pm.length) ss [] (fun z hz => (hpgd z (r5 z hz)).2) 0 (by simp)
      omega
def chOn (last : List Nat) (c : Int) : Bool := decide (last = []) || decide (c % 3 > 0)
def chLine0 (last : List Nat) : List Nat := (if last = [] then [] else [64]) ++ partL last 0
def chLine (last more : List Nat) (c : Int) : List Nat := if chOn last c then chLine0 last ++ [47] ++ partL more (c % 64) else chLine0 last
def chSteps (last more : List Nat) (c : Int) : List Stp := (if last = [] then [.root] else [.sh last]) ++ if chOn last c then [.nm more] else []
abbrev ChS := (Tab × PM) × List Nat
def chPlace (pm : PM) (last more : List Nat) (c : Int) : List (List Nat) := PMf pm last ++ if chOn last c then [more] else []
def chStep (S : ChS) (c : Int) : ChS :=
  if (S.1.1.lookup (nameBy (c / 5))).isSome then S
  else ((S.1.1 ++ [(nameBy (c / 5), chLine S.2 (nameBy (c / 7)) c)], S.1.2 ++ [(nameBy (c / 5), chPlace S.1.2 S.2 (nameBy (c / 7)) c)]), nameBy (c / 5))
structure CI (S : ChS) : Prop where
  ri : RI S.1
  last : S.2 = [] ∨ S.2 ∈ S.1.1.map (·.1)
theorem partL_nil (c : Int) : partL [] c = [] := by
  have : part0 [] c = [] := rfl
  unfold partL; rw [this]; rfl
theorem chLine_ok {last more : List Nat} (c : Int) (hl : last = [] ∨ Gn last) (hm : Gn more) : okLine (chLine last more c) ∧ stepsOf (chLine last more c) = chSteps last more c ∧ (chLine last more c).length ≤ 10000 := by
  have hpm := partL_len more (c % 64)
  have hml := hm.2.1
  have hfm : 47 ∉ partL more (c % 64) ∧ stepOf (partL more (c % 64)) = some [.nm more] := ⟨part_free, stepOf_part hm.2.2 hm.1⟩
  rcases hl with rfl | hl
  · have e : chLine [] more c = List.intercalate [47] (([([], []), (partL more (c % 64), [.nm more])] : List (List Nat × List Stp)).map (·.1)) := by
      have h1 : chOn [] c = true := rfl
      unfold chLine chLine0
      rw [h1, if_pos rfl, if_pos rfl, partL_nil]
      simp [List.intercalate]
    have h := steps_icat (qs := [([], []), (partL more (c % 64), [.nm more])]) (by simp) (fun q hq => by
      simp only [List.mem_cons, List.not_mem_nil, or_false] at hq
      rcases hq with rfl | rfl
      · exact ⟨by simp, rfl⟩
      · exact hfm)
    rw [← e] at h
    have h0 : rootOf (chLine [] more c) = [.root] := if_pos (by rw [e]; simp [List.intercalate])
    refine ⟨h.1, ?_, ?_⟩
    · unfold stepsOf
      rw [h0, h.2]; rfl
    · rw [e]; simp [List.intercalate]; omega
  · have hne := hl.1
    have hll := hl.2.1
    have hpl := partL_len last 0
    have hfl : 47 ∉ 64 :: partL last 0 ∧ stepOf (64 :: partL last 0) = some [.sh last] := ⟨by simp [part_free], stepOf_share (readL_part hl.2.2)⟩
    have e0 : chLine0 last = 64 :: partL last 0 := by unfold chLine0; rw [if_neg hne]; rfl
    by_cases ho : chOn last c = true
    · have e : chLine last more c = List.intercalate [47] (([(64 :: partL last 0, [.sh last]), (partL more (c % 64), [.nm more])] : List (List Nat × List Stp)).map (·.1)) := by
        unfold chLine
        rw [if_pos ho, e0]
        simp [List.intercalate]
      have h := steps_icat (qs := [(64 :: partL last 0, [.sh last]), (partL more (c % 64), [.nm more])]) (by simp) (fun q hq => by
        simp only [List.mem_cons, List.not_mem_nil, or_false] at hq
        rcases hq with rfl | rfl
        · exact hfl
        · exact hfm)
      rw [← e] at h
      have h0 : rootOf (chLine last more c) = [] := if_neg (by rw [e]; simp [List.intercalate])
      refine ⟨h.1, ?_, ?_⟩
      · unfold stepsOf
        rw [h0, h.2]; unfold chSteps; rw [if_neg hne, if_pos ho]; rfl
      · rw [e]; simp [List.intercalate]; omega
    · have e : chLine last more c = List.intercalate [47] (([(64 :: partL last 0, [.sh last])] : List (List Nat × List Stp)).map (·.1)) := by
        unfold chLine
        rw [if_neg ho, e0]
        simp [List.intercalate]
      have h := steps_icat (qs := [(64 :: partL last 0, [.sh last])]) (by simp) (fun q hq => by
        simp only [List.mem_cons, List.not_mem_nil, or_false] at hq
        subst hq; exact hfl)
      rw [← e] at h
      have h0 : rootOf (chLine last more c) = [] := if_neg (by rw [e]; simp [List.intercalate])
      refine ⟨h.1, ?_, ?_⟩
      · unfold stepsOf
        rw [h0, h.2]; unfold chSteps; rw [if_neg hne, if_neg ho]; rfl
      · rw [e]; simp [List.intercalate]; omega
theorem PMf_nil {S : Tab × PM} (I : RI S) : PMf S.2 [] = [] := by
  have h : S.2.lookup [] = none := lookup_none fun h => (I.gd [] (I.keys ▸ h)).1 rfl
  unfold PMf; rw [h]; rfl
theorem CI.nil : CI (([], []), []) := ⟨RI.nil, .inl rfl⟩
theorem CI.step {S : ChS} (I : CI S) (c : Int) : CI (chStep S c) := by
  obtain ⟨⟨tab, pm⟩, last⟩ := S
  unfold chStep
  simp only
  split
  · exact I
  rename_i hno
  have hx : nameBy (c / 5) ∉ tab.map (·.1) := fun h => hno (lookup_some h)
  have hl : last = [] ∨ Gn last := I.last.imp id fun h => I.ri.gd _ h
  obtain ⟨r1, r2, r3⟩ := chLine_ok c hl (nameBy_gd (c / 7))
  have hfold : (chSteps last (nameBy (c / 7)) c).foldl (go (PMf pm)) [] = chPlace pm last (nameBy (c / 7)) c := by
    unfold chSteps chPlace
    by_cases h0 : last = []
    · subst h0
      have : chOn [] c = true := rfl
      rw [if_pos rfl, if_pos this, if_pos this, show PMf pm [] = [] from PMf_nil I.ri]; rfl
    · rw [if_neg h0]
      split <;> simp [go]
  refine ⟨?_, .inr (by simp)⟩
  rw [← hfold]
  refine I.ri.snoc hx (nameBy_gd _) r1 r2 r3 ?_ ?_ ?_
  · unfold chSteps; split <;> split <;> simp
  · intro y hy
    unfold chSteps at hy
    rcases I.last with h | h
    · have h' : last = [] := h
      subst h'
      rw [if_pos rfl] at hy
      split at hy <;> simp at hy
    · have hne : last ≠ [] := (I.ri.gd _ h).1
      rw [if_neg hne] at hy
      have : y = last := by split at hy <;> simpa using hy
      rw [this]; exact h
  · intro y hy
    unfold chSteps at hy
    have : y = nameBy (c / 7) := by split at hy <;> split at hy <;> simp at hy <;> exact hy
    rw [this]; exact nameBy_gd _
theorem chStep_len (S : ChS) (c : Int) : (chStep S c).1.1.length ≤ S.1.1.length + 1 ∧ (chStep S c).1.2.length ≤ S.1.2.length + 1 := by
  unfold chStep; split <;> simp
theorem CI.all (cs : List Int) : ∀ S : ChS, CI S → CI (cs.foldl chStep S) ∧ (cs.foldl chStep S).1.1.length ≤ S.1.1.length + cs.length ∧ (cs.foldl chStep S).1.2.length ≤ S.1.2.length + cs.length := by
  induction cs with
  | nil => exact fun S I => ⟨I, by simp, by simp⟩
  | cons c cs ih =>
    intro S I
    obtain ⟨h1, h2, h3⟩ := ih _ (I.step c)
    have := chStep_len S c
    rw [List.foldl_cons, List.length_cons]
    exact ⟨h1, by omega, by omega⟩
def toldB (ref : List Nat → List (List Nat)) (p : List (List Nat)) (b : Option (List Nat) × Nat) : List Nat :=
  match b.1 with
  | none => []
  | some x => 64 :: wr x ++ if (ref x).length < p.length then [47] else []
theorem told_is {ref : List Nat → List (List Nat)} {p nms : List (List Nat)} (hr : ∀ x ∈ nms, (bestF ref p nms).1 = some x → 0 < (bestF ref p nms).2) :
    tellL ref p (bestF ref p nms) = (if (bestF ref p nms).2 = 0 then [47] else toldB ref p (bestF ref p nms)) ++ List.intercalate [47] ((p.drop (bestF ref p nms).2).map wr) := by
  rcases bestF_ok (ref := ref) (p := p) (nms := nms) with h | ⟨x, hx, h, ht⟩
  · rw [h]; rfl
  · have h0 := hr x hx (by rw [h])
    rw [h] at h0 ⊢
    simp only at h0
    unfold tellL toldB byL
    simp only
    rw [if_neg (by omega)]
    by_cases hlt : (ref x).length < p.length
    · rw [if_pos hlt]
      cases hd : p.drop (ref x).length with
      | nil => have := congrArg List.length hd; rw [List.length_drop] at this; simp at this; omega
      | cons y r => rw [List.map_cons, icat_cons]
    · rw [if_neg hlt, List.drop_eq_nil_of_le (by omega)]
      simp [List.intercalate]
theorem best_pos {ref : List Nat → List (List Nat)} {p : List (List Nat)} : ∀ (nms : List (List Nat)) (b : Option (List Nat) × Nat), (∀ x, b.1 = some x → 0 < b.2) → ∀ x, (nms.foldl (bStep ref p) b).1 = some x → 0 < (nms.foldl (bStep ref p) b).2
  | [], b, h => h
  | y :: nms, b, h => by
    rw [List.foldl_cons]
    refine best_pos nms _ fun x => ?_
    unfold bStep
    split
    · rename_i hc; intro _; simp only; omega
    · exact h x
theorem best_congr {ref ref' : List Nat → List (List Nat)} {p : List (List Nat)} : ∀ (nms : List (List Nat)) (b : Option (List Nat) × Nat), (∀ x ∈ nms, ref x = ref' x) → nms.foldl (bStep ref p) b = nms.foldl (bStep ref' p) b
  | [], _, _ => rfl
  | y :: nms, b, h => by
    rw [List.foldl_cons, List.foldl_cons, show bStep ref p b y = bStep ref' p b y by unfold bStep; rw [h y (.head _)]]
    exact best_congr nms _ fun x hx => h x (.tail _ hx)
end Mine
end
section
open PySem PySem.Calls PyProof.Rows PySem.W
set_option linter.all false
set_option maxRecDepth 100000
namespace Mine
section
variable {T : St} {n : Nat} {env : Env} {Γ Γ' : Gm} {Q : Fw → Gm → Prop}
theorem meets_insert (l : Addr) (items : Array Value) (n : Nat) (dd : Option Addr) (sl : Array (Option Value)) (x : Int) (u : Tok) (y : Value) (hc0 : ¬(!Builtin.List.listFitsIndex x) = true) (hs1 : items.size ≤ sizeLine) :
    Meets (Builtin.«list.insert» ⟨[.ref l, .int x u, y], []⟩) (fun _ R s => s.heap.get? l = some { cls := .type "list", dict := dd, data := .seq items n, slots := sl } ∧ R (.ok (.ret Value.none)) { s with heap := s.heap.update l (Obj.mapSeq fun xs => have k := if x < 0 then (x + (xs.size : Int)).toNat else min x.toNat xs.size; (xs.extract 0 k).push y ++ xs.extract k), toks := s.toks }) :=
  .of_wp fun prog w A R s h => by
    obtain ⟨hp, g, d, tk, os⟩ := s; obtain ⟨hl, h⟩ := h; have f1 := AutoSeq1.idx_int; have f2 := AutoSeq1.sub_tuple_tuple; have f3 := AutoSeq1.sub_list_list; have f4 := AutoSeq1.sub_tuple_list; have f5 := AutoSeq1.sub_list_tuple
    have hz' : ((fun xs : Array Value => have k := if x < 0 then (x + (xs.size : Int)).toNat else min x.toNat xs.size; (xs.extract 0 k).push y ++ xs.extract k) items).size ≤ sizeLine + 1 := Nat.le_trans (AutoSeq1.size_inserted items _ _) (Nat.add_le_add_right hs1 1)
    wp_walk using (wpAny_updateSeq hl rfl (hz := hs1) (_hz' := hz')), AutoSeq1.wpAny_loadPart' hl; exact ⟨_, rfl, h⟩
theorem Ex1.insert {x : Str} {p₁ p₂ p₃ p₄ : Pos} {e₁ e₂ : PySem.Expr} {xs : List PyData} {i : Int} {f₁ : Fl} {d : PyData} (hm : (x, some (.d (.list xs), .o)) ∈ Γ) (ha : EvA T n env Γ [e₁, e₂] [(.d (.int i), f₁), (.d d, .c)]) (h0 : 0 ≤ i) (hi : i ≤ xs.length) (hz : xs.length ≤ sizeLine)
    (hp : Put Γ x (some (.d (.list (xs.take i.toNat ++ d :: xs.drop i.toNat)), .o)) Γ')
    (hbase : attributeBase (.Name x p₁) "insert" env (eval (.Name x p₁) env) = eval (.Name x p₁) env) (hline : (p₂.endLine == p₃.line) = true)
    (hsw : swapsWith (.Call (.Attribute (.Name x p₁) "insert" p₂) [e₁, e₂] [] p₃) none p₄.line env = pure false) (hq : Q .next Γ') :
    Ex1 T n env Γ (.Expr (.Call (.Attribute (.Name x p₁) "insert" p₂) [e₁, e₂] [] p₃) p₄) Q := ⟨fun {A s₀ d₀ own s E QQ} hA S h hx => by
  refine wpAny_Expr (wpAny_Call_method_lateS hbase ?_ hline ?_) (by unfold interactive; rw [S.eok.kind]; rfl) hsw
  · have h1 : (backTo p₃ (starEach [e₁, e₂] env)).all (fun x => !x.1) = true := by
      have := ha.plain p₃
      rw [List.any_eq_false] at this
      rw [List.all_eq_true]
      intro x hx
      have := this x hx
      simpa using this
    rw [h1]; rfl
  obtain ⟨a, vs, o, k, l, hxa, ho, hc, hdi, hdat, hall⟩ := own_list S hm
  refine ld_name S.eok.kind l (S.ok.nodebug x (List.mem_map_of_mem (f := fun p : Str × Slot => p.1) hm)) ?_
  refine ⟨"list", "list.insert", PySem.F.plainAttrs_list, PySem.F.slot_list_insert, PySem.F.type_list_insert, ⟨o, ho, hc⟩, fun b e => by cases e; exact ⟨o, ho, hdi⟩, callWith_machine (.inl ⟨_, rfl⟩) (ha.plain p₃) (evalArgs_any (ha.plain p₃) (ha.run hA S.rd fun vals s₂ k₂ r₂ => ?_))⟩
  cases r₂ with
  | cons r1 r2 =>
    cases r2 with
    | cons r2 r3 =>
      cases r3
      obtain ⟨u, rfl⟩ := Rep.int_inv r1
      rename_i y
      have S₂ := S.kp k₂
      have ho₂ := k₂.h.get ho (by rw [hc]; simp)
      obtain ⟨oc, od, odt, osl⟩ := o
      simp only at hc hdi hdat
      subst hc hdi hdat
      have hlen := hall.length
      have hz24 : sizeLine = 16777216 := rfl
      refine call_meets PySem.F.slot_list_insert ⟨_, ho₂, rfl⟩ PySem.F.entry_list_insert (PySem.F.args_list_insert_3 _ _ _) (meets_insert a vs.toArray k none osl i u y (by simp [Builtin.List.listFitsIndex]; omega) (by rw [List.size_toArray, hlen]; exact hz)) ⟨ho₂, ?_⟩
      obtain ⟨n', hd'⟩ := Obj.data_mapSeq (o := { cls := .type "list", dict := none, data := .seq vs.toArray k, slots := osl }) rfl (fun xs : Array Value => have k := if i < 0 then (i + (xs.size : Int)).toNat else min i.toNat xs.size; (xs.extract 0 k).push y ++ xs.extract k)
      have hk : (if i < 0 then (i + (vs.toArray.size : Int)).toNat else min i.toNat vs.toArray.size) = i.toNat := by
        rw [if_neg (by omega), List.size_toArray, hlen]; omega
      obtain ⟨S', P'⟩ := S₂.relist (vs' := vs.take i.toNat ++ y :: vs.drop i.toNat) hm hxa hp (Heap.SameBut.update ..) (Heap.get?_update_self _ ho₂ (Obj.isFreed_of_seq hd')) (Obj.cls_mapSeq ..) (by rfl) (by
        rw [hd']
        dsimp only
        rw [hk, kl_ins_eq]) (((hall.keeps k₂.h).take _).append (.cons r2 ((hall.keeps k₂.h).drop _)))
      exact h _ .next _ Γ' own S' ((Pres.of_kp k₂).trans (.refl _ _) P') (.refl _ _) trivial hq⟩
end
end Mine
end
section
open PySem PySem.Calls PyProof.Rows PySem.W
set_option linter.all false
namespace Mine
def BaseOk (N : Nat) (base : Heap) : Prop := ∀ b o, base.get? b = some o → o.cls ≠ .type "frame" ∨ b < N ∨ ∃ vs, o.data = .fields vs
structure XAt (base : Heap) (l : List Env) (s : Shared) (k : Addr) (ea : Addr) (s' : Shared) : Prop where
  same : ∃ h tk, s' = { s with heap := h, toks := tk }
  up : s.heap.UpToSlots s'.heap
  fly : (∃ a0, Heap.FlyingW base l ea (.ref k) a0 s'.heap) ∨ ∃ h vs, Heap.MadeExcOf h s'.heap ea (.ref k) vs ∧ base.StaysIn h ∧ h.FunFrames base l
structure XFl (base : Heap) (l : List Env) (s : Shared) (k : Addr) (ea : Addr) (s' : Shared) : Prop where
  same : ∃ h tk, s' = { s with heap := h, toks := tk }
  up : s.heap.UpToSlots s'.heap
  fly : ∃ a0, Heap.FlyingW base l ea (.ref k) a0 s'.heap
structure CallsX (T : St) (n : Nat) (f : Addr) (xs : List Vl) (k : Addr) : Prop where
  run : ∀ {A : Around} {s : Shared} {E : Value → Shared → Prop} {Q : Value → Shared → Prop} {vals : List Value} {base : Heap} {l : List Env}, Amb n A → A.frames = some l → BaseOk T.N base → base.StaysIn s.heap → s.heap.FunFrames base l → Wd T s.heap → RepAs T.w s.heap vals xs →
    (∀ ea s', XFl base l s k ea s' → E (.ref ea) s') → wpAny T.M A (call (.ref f) vals) Q E s
def FunX (T : St) (n : Nat) (f : Str) (xs : List Vl) (k : Addr) : Prop := ∃ a fd, T.mg f = some (.ref a) ∧ FnAt T a fd ∧ CallsX T n a xs k
structure EvX (T : St) (n : Nat) (env : Env) (Γ : Gm) (e : PySem.Expr) (k : Addr) : Prop where
  run : ∀ {A : Around} {reg : Fl → Addr → Prop} {s : Shared} {E : Value → Shared → Prop} {Q : Value → Shared → Prop} {base : Heap} {l : List Env}, Amb n A → A.frames = some l → BaseOk T.N base → base.StaysIn s.heap → s.heap.FunFrames base l → Rd T env reg Γ s →
    (∀ ea s', XFl base l s k ea s' → E (.ref ea) s') → wpAny T.M A (eval e env) Q E s
section
variable {T : St} {n : Nat} {env : Env} {Γ : Gm}
end

structure Bl (T : St) (A : Around) (env : Env) (base : Heap) (outer : List Env) (s₀ : Shared) : Prop where
  fr : A.frames = some (env :: outer)
  ok : BaseOk T.N base
  stays : base.StaysIn s₀.heap
  ff : s₀.heap.FunFrames base outer
  own : env.frame = some env.locals
structure ExX (T : St) (n : Nat) (env : Env) (outer : List Env) (Γ : Gm) (ss : List Stmt) (Q : Fw → Gm → Prop) : Prop where
  run : ∀ {A : Around} {s₀ : Shared} {d₀ : Addr → Prop} {own : Own} {s : Shared} {E : Value → Shared → Prop} {QQ : Flow → Shared → Prop} {base : Heap}, Amb n A → Bl T A env base outer s₀ → SI T s₀ d₀ env own Γ s → PassesOwn T.M A env E →
    (∀ f f' s' Γ' own', SI T s₀ d₀ env own' Γ' s' → Pres T.N env own s s' → OwnLe own own' s → FlowRep T s₀ d₀ s' f f' → Q f' Γ' → QQ f s') →
    (∀ k ea s', XAt base (env :: outer) s₀ k ea s' → Q (.exc k) [] → E (.ref ea) s') → wpAny T.M A (execs ss env) QQ E s
structure ExX1 (T : St) (n : Nat) (env : Env) (outer : List Env) (Γ : Gm) (st : Stmt) (Q : Fw → Gm → Prop) : Prop where
  run : ∀ {A : Around} {s₀ : Shared} {d₀ : Addr → Prop} {own : Own} {s : Shared} {E : Value → Shared → Prop} {QQ : Flow → Shared → Prop} {base : Heap}, Amb n A → Bl T A env base outer s₀ → SI T s₀ d₀ env own Γ s → PassesOwn T.M A env E →
    (∀ f f' s' Γ' own', SI T s₀ d₀ env own' Γ' s' → Pres T.N env own s s' → OwnLe own own' s → FlowRep T s₀ d₀ s' f f' → Q f' Γ' → QQ f s') →
    (∀ k ea s', XAt base (env :: outer) s₀ k ea s' → Q (.exc k) [] → E (.ref ea) s') → wpAny T.M A (exec st env) QQ E s
def ThnX (T : St) (n : Nat) (env : Env) (outer : List Env) (rest : List Stmt) (Q : Fw → Gm → Prop) : Fw → Gm → Prop
  | .next, Γ => ExX T n env outer Γ rest Q
  | .brk, Γ => Q .brk Γ
  | .cont, Γ => Q .cont Γ
  | .ret d, Γ => Q (.ret d) Γ
  | .exc k, Γ => Q (.exc k) Γ
section
variable {T : St} {n : Nat} {env : Env} {outer : List Env} {Γ Γ' : Gm} {Q Q' : Fw → Gm → Prop}
theorem ExX.of {ss : List Stmt} (h : Ex T n env Γ ss Q) : ExX T n env outer Γ ss Q := ⟨fun hA B S hE hq hx => h.run hA S hq fun k e s' Γ' own' S' p o er q => er.elim⟩
end

structure ExcCls (T : St) (x : Str) (C : Addr) : Prop where
  own : ∀ h : Heap, Wd T h → OwnCls x C [.type "ValueError", .type "Exception", .type "BaseException", .type "object"] "ValueError.__new__" T.mg h
section
variable {T : St} {n : Nat} {env : Env} {outer : List Env} {Γ : Gm} {Q : Fw → Gm → Prop}
end
end Mine
end
section
open PySem PySem.Calls PyProof.Rows PySem.W
set_option linter.all false
namespace Mine
section
variable {T : St} {n : Nat} {env : Env} {outer : List Env} {Γ Γ' : Gm} {Q Q' : Fw → Gm → Prop}
end
def EndsX (k : Addr) : Fw → Gm → Prop
  | .exc k', _ => k' = k
  | _, _ => False
end Mine
end
section
open PySem PySem.Calls PyProof.Rows PySem.W
set_option linter.all false
namespace Mine
structure CallsT (T : St) (n : Nat) (f : Addr) (xs : List Vl) (d : PyData) : Prop where
  run : ∀ {A : Around} {s : Shared} {E : Value → Shared → Prop} {Q : Value → Shared → Prop} {vals : List Value}, Amb n A → A.frames = some [] → s.heap.objs.size ≤ T.N → Wd T s.heap → RepAs T.w s.heap vals xs →
    (∀ val s', Kp T.N s s' → RepF T.w (fun a => ¬ False) s.heap s'.heap val d → Q val s') → wpAny T.M A (call (.ref f) vals) Q E s
def FunT (T : St) (n : Nat) (f : Str) (xs : List Vl) (d : PyData) : Prop := ∃ a fd, T.mg f = some (.ref a) ∧ FnAt T a fd ∧ CallsT T n a xs d
theorem FunT.def {T : St} {n : Nat} {f : Str} {a : Addr} {xs : List Vl} {d : PyData} {name qual : Str} {params : Arguments} {body : List Stmt} {scope : Scope} {dV kV doc pm cdv ct oc : Value} {an od : Option Addr} {osl : Array (Option Value)} {ps ls : List Str} {Γp : Gm}
    (G : Gd T) (hn : nsIn T.K mainGlobals f = some (some (.ref a))) (ho : T.K.lookup a = some ⟨oc, od, .func (fnOf name qual params body scope dV kV doc pm an cdv ct), osl⟩) (hcd : codeIn T.K cdv qual = true)
    (hb : Binds (fnOf name qual params body scope dV kV doc pm an cdv ct) ps) (hp : Prm ps xs Γp) (hok : GmOk (ps ++ ls)) (hk : ∀ x ∈ ps, scope.names.lookup x = some .local ∨ scope.names.lookup x = some .cell)
    (hsc : scope.kind = .function ∧ scope.isCoroutine = false ∧ scope.isGenerator = false)
    (h : ∀ env : Env, env.scope = scope → ExX T n env [] (Γp ++ ls.map fun x => (x, none)) body (Ends d)) : FunT T (n + 1) f xs d :=
  ⟨a, _, G.g f _ hn, ⟨_, ho, rfl⟩, ⟨fun {A s E Q vals} hA hAf hN hw hr hq => call_enter (g := s.heap) (D := fun _ => False) ho hcd hb hp hok hk hsc (by have := hA.depth; omega) hw (fun _ _ e => e) hw (fun _ h => h.elim) hr fun env s₁ he hfe _ S _ => by
    have B : Bl T (A.deeper env) env s.heap [] s := ⟨Around.frames_deeper hAf, fun b o e => .inr (.inl (Nat.lt_of_lt_of_le (Heap.lt_size e) hN)), fun _ _ e => e, trivial, hfe⟩
    refine (h env he).run (hA.deeper _) B S PassesOwn.leaving (fun g g' s' Γ' own' S' p o fr q => ?_) fun k' ea s' x q => q.elim
    obtain ⟨m, cm, F', _⟩ := S'.frm
    have hkp : Kp T.N s s' := by obtain ⟨h', tk, e⟩ := F'.same; subst e; exact ⟨h', tk, rfl, F'.keep⟩
    cases g' with
    | ret d' =>
      cases g <;> first | exact fr.elim | skip
      have : d' = d := q
      subst this
      exact hq _ s' hkp fr
    | next =>
      cases g <;> first | exact fr.elim | skip
      have : d = .none := q
      subst this
      exact hq _ s' hkp repF_none
    | brk => exact q.elim
    | cont => exact q.elim
    | exc k => exact q.elim⟩⟩
theorem FunT.defK {T : St} {K : Frag} {n : Nat} {f : Str} {a : Addr} {xs : List Vl} {d : PyData} {name qual : Str} {params : Arguments} {body : List Stmt} {scope : Scope} {dV kV doc pm cdv ct oc : Value} {an od : Option Addr} {osl : Array (Option Value)} {Γp : Gm}
    (G : GdK T K) (ps ls : List Str) (hn : nsIn K mainGlobals f = some (some (.ref a))) (ho : K.lookup a = some ⟨oc, od, .func (fnOf name qual params body scope dV kV doc pm an cdv ct), osl⟩) (hcd : codeIn K cdv qual = true)
    (hb : Binds (fnOf name qual params body scope dV kV doc pm an cdv ct) ps) (hp : Prm ps xs Γp) (hok : okNames (ps ++ ls) = true) (hk : okPrm scope ps = true)
    (hsc : scope.kind = .function ∧ scope.isCoroutine = false ∧ scope.isGenerator = false)
    (h : ∀ env : Env, env.scope = scope → ExX T n env [] (Γp ++ ls.map fun x => (x, none)) body (Ends d)) : FunT T (n + 1) f xs d :=
  FunT.def G.gd (by rw [G.k]; exact hn) (by rw [G.k]; exact ho) (by rw [G.k]; exact hcd) hb hp (okNames_ok hok) (okPrm_ok hk) hsc h
end Mine
end
section
open PySem PySem.Calls PyProof.Rows PySem.W
set_option linter.all false
namespace Mine
section
variable {T : St} {s₀ s s' : Shared} {d₀ : Addr → Prop} {env : Env} {own : Own} {Γ : Gm}
end
open Classical in
noncomputable def hidden (N : Nat) (env : Env) (h : Heap) : List Addr := env.locals :: (List.range h.objs.size).filter fun b => decide (N ≤ b ∧ ∃ o, h.get? b = some o ∧ o.cls = .type "frame" ∧ ∀ vs, o.data ≠ .fields vs)
noncomputable def ground (N : Nat) (env : Env) (h : Heap) : Heap := hideAll h (hidden N env h)
section
variable {T : St} {n : Nat} {env : Env} {Γ Γ' : Gm} {Q : Fw → Gm → Prop}
end
end Mine
end
section
open PySem PySem.Calls PyProof.Rows PySem.W
set_option linter.all false
namespace Mine
def dictD (m : List (List Nat × PyData)) : PyData := .dict (m.map fun p => (.str (mkS p.1), p.2))
section
variable {prog : Program} {w : World} {R : Addr → Prop} {h : Heap} {v : Value}
theorem pairs_of {h : Heap} : ∀ {es : List DictEntry} {m : List (List Nat × PyData)} {as bs : List Addr}, ReadsAll h (es.map (·.key)) (m.map fun p => .str (mkS p.1)) as → ReadsAll h (es.map (·.val)) (m.map (·.2)) bs →
    Pairs (strKind prog w) es ((m.map fun p => mkS p.1).zip (es.map (·.val)))
  | [], [], _, _, _, _ => .nil
  | [], _ :: _, _, _, h1, _ => nomatch h1
  | _ :: _, [], _, _, h1, _ => nomatch h1
  | e :: es, p :: m, _, _, .cons h1 h2, .cons h3 h4 => by
    refine .cons ?_ rfl (pairs_of h2 h4)
    have h1' : Reads h e.key (.str (mkS p.1)) _ := h1
    generalize hk : e.key = kk at h1'
    cases h1'
    show (mkS p.1 == mkS p.1) = true
    simp
theorem zip_keys : ∀ {m : List (List Nat × PyData)} {vs : List Value}, vs.length = m.length → ((m.map fun p => mkS p.1).zip vs).map (·.1) = m.map fun p => mkS p.1
  | [], [], _ => rfl
  | [], _ :: _, h => by simp at h
  | _ :: _, [], h => by simp at h
  | _ :: m, _ :: vs, h => by simp [zip_keys (m := m) (vs := vs) (by simpa using h)]
theorem readsAll_nil {h : Heap} : ∀ {es : List Value} {m : List (List Nat × PyData)} {as : List Addr}, ReadsAll h es (m.map fun p => .str (mkS p.1)) as → as = []
  | [], [], _, .nil => rfl
  | _ :: _, _ :: _, _, .cons h1 h2 => by cases h1; rw [readsAll_nil h2]; rfl
theorem Rep.dict_inv {m : List (List Nat × PyData)} (x : Rep w R h v (dictD m)) (hn : (m.map (·.1)).Nodup) :
    ∃ a vs, v = .ref a ∧ R a ∧ a ≠ sysModules ∧ (∃ ep, h.DictAt (strKind prog w) a ((m.map fun p => mkS p.1).zip vs) ep) ∧ RepAll w R h vs (m.map (·.2)) := by
  obtain ⟨as, r, hr, hd⟩ := x
  cases r with
  | @dict a o es n _ as bs ho hc hdat hks hvs =>
    have e1 : (m.map fun p => ((.str (mkS p.1), p.2) : PyData × PyData)).map (·.1) = m.map fun p => .str (mkS p.1) := by rw [List.map_map]; rfl
    have e2 : (m.map fun p => ((.str (mkS p.1), p.2) : PyData × PyData)).map (·.2) = m.map (·.2) := by rw [List.map_map]; rfl
    rw [e1] at hks; rw [e2] at hvs
    obtain ⟨o', ho', hdk⟩ := hd a (by simp)
    rw [ho] at ho'; cases ho'
    obtain ⟨h1, h2, h3⟩ := hdk _ _ hdat
    have hP := pairs_of (prog := prog) (w := w) hks hvs
    have hlen : (es.toList.map (·.val)).length = m.length := by
      have hA : RepAll w (fun _ => True) h (es.toList.map (·.val)) (m.map (·.2)) := ⟨bs, hvs, fun _ _ => trivial, fun b hb => hd b (by simp [hb])⟩
      rw [hA.length, List.length_map]
    refine ⟨a, es.toList.map (·.val), rfl, hr a (by simp), h1, ⟨n, o, es, ho, ⟨h2.1, h2.2.1, h2.2.2⟩, hdat, fun e he => ?_, hP, ?_⟩, bs, hvs, fun b hb => hr b (by simp [hb]), fun b hb => hd b (by simp [hb])⟩
    · obtain ⟨y, t, q1, q2⟩ := h3 e (by simpa using he)
      exact ⟨y, by show Value.isStrOf y e.key = true; rw [q1]; show (y == y) = true; simp, q2⟩
    · rw [zip_keys hlen]
      exact List.pairwise_map.mpr ((List.pairwise_map.mp hn).imp fun h e => h (mkS_inj.mp e))
theorem valueAt_zip : ∀ {m : List (List Nat × PyData)} {vs : List Value} {k : List Nat}, RepAll w R h vs (m.map (·.2)) →
    (∀ d, m.lookup k = some d → ∃ u, valueAt ((m.map fun p => mkS p.1).zip vs) (mkS k) = some u ∧ Rep w R h u d) ∧ (m.lookup k = none → valueAt ((m.map fun p => mkS p.1).zip vs) (mkS k) = none)
  | [], [], k, _ => ⟨fun d e => by simp at e, fun _ => rfl⟩
  | [], _ :: _, k, ⟨_, r, _⟩ => nomatch r
  | _ :: _, [], k, ⟨_, r, _⟩ => nomatch r
  | (x, d') :: m, u :: vs, k, r => by
    obtain ⟨r1, r2⟩ := r.cons_inv
    obtain ⟨i1, i2⟩ := valueAt_zip (k := k) r2
    rw [List.lookup_cons]
    unfold valueAt at i1 i2 ⊢
    by_cases hx : k = x
    · subst hx
      simp only [beq_self_eq_true, List.map_cons, List.zip_cons_cons, List.find?_cons, decide_true, Option.map_some]
      exact ⟨fun d e => by cases e; exact ⟨u, rfl, r1⟩, fun e => by cases e⟩
    · have h1 : (k == x) = false := by simpa using hx
      have h2 : decide (mkS x = mkS k) = false := decide_eq_false fun e => hx (mkS_inj.mp e).symm
      simp only [h1, List.map_cons, List.zip_cons_cons, List.find?_cons, h2]
      exact ⟨i1, i2⟩
end
section
variable {T : St} {n : Nat} {env : Env} {Γ Γ' : Gm} {m : List (List Nat × PyData)} {fl : Fl} {Q : Fw → Gm → Prop}
theorem Itr.dict {e : PySem.Expr} (he : Ev T n env Γ e (.d (dictD m)) fl) (hn : (m.map (·.1)).Nodup) (hs : ∀ x, foldedSetIterable e env x = pure x) : Itr T n env Γ e (m.map fun p => .str (mkS p.1)) fl := ⟨fun {A reg s E Q} hA R h => by
  refine he.run hA R fun val s₁ k₁ r₁ => ?_
  obtain ⟨a, vs, rfl, hR, hsm, ⟨ep, hd⟩, hall⟩ := Rep.dict_inv (prog := T.prog) r₁ hn
  have hlt : a < s₁.heap.objs.size := by obtain ⟨_, _, e, _⟩ := hd; exact Heap.lt_size e
  have hlen : ((m.map fun p => mkS p.1).zip vs).length = (m.map fun p => PyData.str (mkS p.1)).length := by
    have := hall.length
    simp only [List.length_map] at this
    simp [this]
  have hd' : ∀ o, (s₁.heap.push o).DictAt (strKind T.prog T.w) a ((m.map fun p => mkS p.1).zip vs) ep := fun o => hd.at' fun _ e => Heap.get?_push_of_some _ e
  refine wpAny_pyIter_dict (by simpa using hsm) hd (h s₁.heap.objs.size _ [s₁.heap.objs.size, a] [s₁.heap.objs.size] _ (fun i h => h.IsKeyIter s₁.heap.objs.size a i (m.map fun p => PyData.str (mkS p.1)).length ep ∧ h.DictAt (strKind T.prog T.w) a ((m.map fun p => mkS p.1).zip vs) ep) (k₁.trans (.push _ _))
    ⟨hlen ▸ Walks.dictKeys (knd := strKind T.prog T.w) hA.handled _ _ (Nat.ne_of_lt hlt) _ ep, fun i h st b hb => ?_, fun i h st b hb => ?_⟩ ⟨⟨_, Heap.get?_push_size _ rfl, rfl, by rw [← hlen]; rfl⟩, hd' _⟩ (fun b hb => ?_) (fun b hb => ?_) fun i v _ hv => ?_)
  · simp only [List.mem_singleton] at hb; subst hb
    obtain ⟨o, ho, _, hd⟩ := st.1
    exact ⟨o, _, ho, hd⟩
  · simp only [List.mem_cons, List.not_mem_nil, or_false] at hb
    rcases hb with rfl | rfl
    · obtain ⟨o, ho, hc, _⟩ := st.1; exact ⟨o, ho, by rw [hc]; simp⟩
    · obtain ⟨o, _, ho, hc, _⟩ := st.2; exact ⟨o, ho, by rw [hc.1]; simp⟩
  · simp only [List.mem_singleton] at hb; subst hb
    exact k₁.h.none (Heap.get?_none_of_le (Nat.le_refl _))
  · simp only [List.mem_cons, List.not_mem_nil, or_false] at hb
    rcases hb with rfl | rfl
    · exact .inl (by simp)
    · exact .inr (.inl hR)
  · obtain ⟨k, x, hk, hkv⟩ := hv
    obtain ⟨t, rfl⟩ := Value.isStrOf_shape hkv
    have h1 := List.getElem?_zip_eq_some.mp hk
    have h2 : (m.map fun p => PyData.str (mkS p.1))[i]? = some (.str k) := by
      have := h1.1
      rw [List.getElem?_map] at this ⊢
      obtain ⟨p, q1, q2⟩ := Option.map_eq_some_iff.mp this
      have q2' : mkS p.1 = k := q2
      rw [q1]; simp [q2']
    exact ⟨_, h2, rep_str _ _⟩, hs⟩
theorem Sub.dict {k : List Nat} {d : PyData} (hn : (m.map (·.1)).Nodup) (hl : m.lookup k = some d) : Sub T n (.d (dictD m)) fl (.d (.str (mkS k))) d fl := ⟨fun {A reg R₂ s E Q ov ival} hA _ r₁ r₂ h => by
  obtain ⟨a, vs, rfl, hR, hsm, ⟨ep, hd⟩, hall⟩ := Rep.dict_inv (prog := T.prog) r₁ hn
  obtain ⟨t, rfl⟩ := Rep.str_inv r₂
  obtain ⟨u, hu, hr⟩ := (valueAt_zip (k := k) hall).1 d hl
  exact ⟨"dict", _, slot_dict_getitem.lookup, hd.dictOf.typeIs, wpAny_getItem_of (knd := strKind T.prog T.w) (k := mkS k) (by show (mkS k == mkS k) = true; simp) hd.dictOf.mapOf hu (h _ _ (.tok _ _) hr)⟩⟩
theorem Cmp.ninD {k : List Nat} (hn : (m.map (·.1)).Nodup) : Cmp T n .NotIn (.d (.str (mkS k))) (.d (dictD m)) (!(m.lookup k).isSome) := ⟨fun {A R₁ R₂ s E Q x y} hA _ r₁ r₂ h => by
  obtain ⟨a, vs, rfl, hR, hsm, ⟨ep, hd⟩, hall⟩ := Rep.dict_inv (prog := T.prog) r₂ hn
  obtain ⟨t, rfl⟩ := Rep.str_inv r₁
  refine wpAny_notIn_of (knd := strKind T.prog T.w) (k := mkS k) (by show (mkS k == mkS k) = true; simp) (by simpa using hsm) hd.dictOf.mapOf ?_
  have hv := valueAt_zip (k := k) hall
  cases e : m.lookup k with
  | none => rw [hv.2 e]; rw [e] at h; exact h _ (.tok _ _)
  | some d =>
    obtain ⟨u, hu, _⟩ := hv.1 d e
    rw [hu]; rw [e] at h; exact h _ (.tok _ _)⟩
theorem Ex1.expr {e : PySem.Expr} {p : Pos} {d : PyData} (he : EvF T n env Γ e d) (hs : swapsWith e none p.line env = pure false) (hq : Q .next Γ) : Ex1 T n env Γ (.Expr e p) Q := ⟨fun {A s₀ d₀ own s E QQ} hA S h hx => by
  refine wpAny_Expr_any (he.run hA S.rd fun val s₁ k₁ r₁ => h _ .next s₁ Γ own (S.kp k₁) (.of_kp k₁) (.refl _ _) trivial hq) ?_ hs
  unfold interactive; rw [S.eok.kind]; rfl⟩
end
end Mine
end
section
open PySem PySem.Calls PyProof.Rows PySem.W
set_option linter.all false
namespace Mine

theorem Wd.frag {T : St} {h : Heap} (x : Wd T h) : Frag.In T.K h := fun a o e => x.k a o e
section
variable {w : World} {R : Addr → Prop} {h : Heap}
theorem FieldsRep.get {f : Str} {d : PyData} : ∀ {es : List DictEntry} {fs : List (Str × PyData)}, FieldsRep w R h es fs → fs.lookup f = some d → ∃ v, getL f es = some (some v) ∧ Rep w R h v d
  | [], [], _, e => by simp at e
  | e :: es, (x, d') :: fs, ⟨⟨t, hk⟩, _, hv, r⟩, hl => by
    rw [List.lookup_cons] at hl
    by_cases hx : f = x
    · subst hx
      simp at hl
      subst hl
      exact ⟨e.val, by simp [getL, hk, Value.isStr], hv⟩
    · have hx' : (f == x) = false := by simpa using hx
      rw [hx'] at hl
      obtain ⟨v, h1, h2⟩ := FieldsRep.get r hl
      refine ⟨v, ?_, h2⟩
      have hne : e.key.isStr f = false := by rw [hk]; show (x == f) = false; simpa using Ne.symm hx
      unfold getL at h1 ⊢
      rw [List.find?_cons_of_neg (by rw [hne]; decide)]
      cases q : es.find? (·.key.isStr f) with
      | some e' => rw [q] at h1; exact h1
      | none => rw [q] at h1; simp only at h1; split at h1 <;> cases h1
theorem FieldsRep.noRef : ∀ {es : List DictEntry} {fs : List (Str × PyData)}, FieldsRep w R h es fs → es.any (·.refKey) = false
  | [], [], _ => rfl
  | e :: es, (x, d') :: fs, ⟨⟨t, hk⟩, _, hv, r⟩ => by
    rw [List.any_cons, FieldsRep.noRef r]
    have : e.refKey = false := by unfold DictEntry.refKey; rw [hk]
    rw [this]; rfl
theorem FieldsRep.no {f : Str} : ∀ {es : List DictEntry} {fs : List (Str × PyData)}, FieldsRep w R h es fs → fs.lookup f = none → es.find? (·.key.isStr f) = none
  | [], [], _, _ => rfl
  | e :: es, (x, d') :: fs, ⟨⟨t, hk⟩, _, hv, r⟩, hl => by
    rw [List.lookup_cons] at hl
    by_cases hx : f = x
    · subst hx; simp at hl
    · have hx' : (f == x) = false := by simpa using hx
      rw [hx'] at hl
      have hne : e.key.isStr f = false := by rw [hk]; show (x == f) = false; simpa using Ne.symm hx
      rw [List.find?_cons_of_neg (by rw [hne]; decide)]
      exact FieldsRep.no r hl
theorem FieldsRep.lacks {f : Str} {es : List DictEntry} {fs : List (Str × PyData)} (r : FieldsRep w R h es fs) (hl : fs.lookup f = none) : getL f es = some none := by
  unfold getL
  rw [r.no hl, r.noRef]; rfl
theorem FieldsRep.length : ∀ {es : List DictEntry} {fs : List (Str × PyData)}, FieldsRep w R h es fs → es.length = fs.length
  | [], [], _ => rfl
  | _ :: _, (_, _) :: _, ⟨_, _, _, r⟩ => by simp [FieldsRep.length r]
theorem inst_at {x dx C : Addr} {es : List DictEntry} {n : Nat} (h1 : h.get? x = some { cls := .ref C, dict := some dx }) (h2 : h.get? dx = some { cls := .type "dict", data := .dict (List.toArray es) n }) :
    InstAt h x { cls := .ref C, dict := some dx } C (some (dictOf es n)) := ⟨h1, rfl, rfl, h2⟩
theorem Rep.handed {v : Value} {d : PyData} (r : Rep w R h v d) : handedIn v = true := by
  obtain ⟨as, r, _⟩ := r
  cases r <;> rfl
end

structure ClsOk (T : St) (C : Addr) : Prop where
  ga : findIn T.K (.ref C) "__getattribute__" = some (some (.builtin "object.__getattribute__"))
  gt : findIn T.K (.ref C) "__getattr__" = some none
  sa : findIn T.K (.ref C) "__setattr__" = some (some (.builtin "object.__setattr__"))
  over : plainOver T.K C = true
  dict : hasDictIn T.K C = true

section
variable {T : St} {n : Nat} {env : Env} {Γ Γ' : Gm} {C : Addr} {fs : List (Str × PyData)} {fl : Fl}
theorem Ev.attr {x f : Str} {p pos : Pos} {d : PyData} (c : ClsOk T C) (he : Ev T n env Γ (.Name x p) (.i C fs) fl) (ha : findIn T.K (.ref C) f = some none) (hl : fs.lookup f = some d) : Ev T n env Γ (.Attribute (.Name x p) f pos) (.d d) fl := ⟨fun {A reg s E Q} hA R h =>
  Attribute_name (he.run hA R fun val s₁ k₁ r₁ => by
    obtain ⟨a, dx, es, m, e1, e2, e3, e4, e5, e6⟩ := r₁
    subst e1
    obtain ⟨v, g1, g2⟩ := e6.get hl
    exact get_value (R.wd.kp k₁.h).frag (inst_at e4 e5) c.ga (findObj_own c.dict ha rfl (by rw [lookIn_dict]; exact g1)) g2.handed (h v _ (k₁.trans (.tok _ _)) g2))⟩

theorem Call_meth {A : Around} {E : Value → Shared → Prop} {s : Shared} {o : PySem.Expr} {name : Str} {apos pos : Pos} {args : List PySem.Expr} {Q : Value → Shared → Prop}
    (hbase : attributeBase o name env (eval o env) = eval o env)
    (hfew : ((backTo pos (starEach args env)).all (fun x => !x.1) && (backToKw pos (keywordEach [] env)).all (fun x => x.1.isSome)
      && decide (args.length + ([] : List Keyword).length + (if ([] : List Keyword).isEmpty then 0 else 1) < 30)) = true)
    (hline : (apos.endLine == pos.line) = true)
    (h : wpAny T.M A (eval o env) (fun ov s₁ => ∀ pl, wpAny T.M A (getMethod ov name pl) (fun fx s₂ => wpAny T.M A (callWith pos fx.1 fx.2 (backTo pos (starEach args env)) []) Q E s₂) E s₁) E s) :
    wpAny T.M A (eval (.Call (.Attribute o name apos) args [] pos) env) Q E s := by
  rw [arm_eval_Call, hbase]
  refine wpAny_bind (wpAny_mono h (fun ov s₁ h₁ => ?_) fun _ _ e => e)
  refine wpAny_bind (wpAny_standAt ?_)
  have hform : methodCallForm (args.length + ([] : List Keyword).length) (backTo pos (starEach args env)) (backToKw pos (keywordEach [] env)) = true := hfew
  have hpos : methodCallPos true o env apos pos = pure pos := by unfold methodCallPos; simp [hline]
  unfold methodCall
  rw [hform]
  refine wpAny_bind (wpAny_holding (wpAny_mono (h₁ _) (fun fx s₂ h₂ => ?_) fun _ _ e => e))
  exact wpAny_bind (wpAny_of_eq hpos h₂)

theorem fnAt_keep {a : Addr} {fd : FuncData} (hf : FnAt T a fd) : keepIn T.K (.ref a) = true := by
  obtain ⟨⟨c, di, da, sl⟩, ho, hd⟩ := hf
  cases hd
  unfold keepIn
  simp only [ho]

theorem EvF.methI {m : Nat} {o : PySem.Expr} {name : Str} {apos pos : Pos} {args : List PySem.Expr} {xs : List (Vl × Fl)} {d : PyData} {fa : Addr} {fd : FuncData} (c : ClsOk T C) (ho : Ev T n env Γ o (.i C fs) fl)
    (hf : findIn T.K (.ref C) name = some (some (.ref fa))) (ht : typeIn T.K (.ref fa) = some (.type "function")) (hfn : FnAt T fa fd) (hl : fs.lookup name = none) (ha : EvA T n env Γ args xs) (hc : Calls T m fa (.i C fs :: xs.map (·.1)) d) (hm : m ≤ n)
    (hbase : attributeBase o name env (eval o env) = eval o env) (hfew : decide (args.length < 30) = true) (hline : (apos.endLine == pos.line) = true) : EvF T n env Γ (.Call (.Attribute o name apos) args [] pos) d := ⟨fun {A reg s E Q} hA R h => by
  refine Call_meth hbase ?_ hline (ho.run hA R fun ov s₁ k₁ r₁ => ?_)
  · have h1 : (backTo pos (starEach args env)).all (fun x => !x.1) = true := by
      have := ha.plain pos
      rw [List.any_eq_false] at this
      rw [List.all_eq_true]
      intro x hx
      have := this x hx
      simpa using this
    rw [h1]
    show (true && true && decide (args.length + 0 + 0 < 30)) = true
    simpa using hfew
  · have r₀ := r₁
    obtain ⟨a, dx, es, k, e1, e2, e3, e4, e5, e6⟩ := r₁
    subst e1
    intro pl
    refine method_fn (R.wd.kp k₁.h).frag (inst_at e4 e5) c.ga c.gt hf ht (by show (lookIn name (dictOf es k)).map _ = _; rw [lookIn_dict, e6.lacks hl]; rfl) ?_
    refine callWith_of (P := fun h => Frag.In T.K h) (by rw [ha.plain]; rfl) (keeps_K (fnAt_keep hfn)) (evalArgs_any (ha.plain pos) (ha.run hA (R.kp k₁) fun vals s₂ k₂ r₂ => ⟨((R.wd.kp k₁.h).kp k₂.h).frag, ?_⟩))
    exact (hc.le hm).run (fun b => ¬ reg .c b) hA ((R.wd.kp k₁.h).kp k₂.h) (fun b hb e => hb (((R.regs.kp k₁.h).kp k₂.h).fresh .c b e)) (.cons (RepV.mono (RepV.keeps (x := .i C fs) r₀ k₂.h) fun _ _ => trivial) r₂.any) fun val s₃ k₃ r₃ =>
      h val s₃ ((k₁.trans k₂).trans k₃) ((r₃.older (k₁.trans k₂).h).mono fun b hb => Classical.byContradiction hb)⟩

theorem set_field {A : Around} {E : Value → Shared → Prop} {s : Shared} {Q : Unit → Shared → Prop} {x dx : Addr} {es : List DictEntry} {k : Nat} {name : Str} {v : Value} (X : Wd T s.heap) (c : ClsOk T C)
    (hx : s.heap.get? x = some { cls := .ref C, dict := some dx }) (hdx : s.heap.get? dx = some { cls := .type "dict", data := .dict (List.toArray es) k }) (ht : takerIn T.K C name = some none)
    (hno : es.find? (·.key.isStr name) = none) (hnr : es.any (·.refKey) = false) (hz : es.length < 1000)
    (h : Q () { s with heap := s.heap.update dx (Obj.putName name (PyData.keyHash T.w.params name) (.str name (s.toks + 1)) v), toks := s.toks + 2 }) : wpAny T.M A (setAttr (.ref x) name v) Q E s := by
  have I := inst_at hx hdx
  refine set_plain X.frag I c.sa (osa_open (s := { s with toks := s.toks + 1 }) X.frag I c.over ht fun b => ?_)
  obtain ⟨cd, hc, hd'⟩ := any_some c.dict
  have X' : Frag.In T.K ({ s with toks := s.toks + 1 } : Shared).heap := X.frag
  refine wpAny_bind (wpAny_pure (wpAny_bind (wpAny_bind (wpAny_loadPart hx (wpAny_bind (Looks.here (s := { s with toks := s.toks + 1 }) (looks_clsIn X' hc) ?_))))))
  rw [hd']
  refine wpAny_pure (a := some dx) (wpAny_bind (wpAny_pure (wpAny_bind ?_)))
  unfold nsSet
  refine wpAny_bind (wpAny_bind (wpAny_askSetting (wpAny_pure (wpAny_bind (wpAny_mkText (wpAny_bind (wpAny_loadPart hdx ?_)))))))
  have hc' : (!(List.toArray es).any (·.key.isStr name) && (List.toArray es).any (·.refKey)) = false := by
    rw [List.any_toArray, List.any_toArray, hnr, Bool.and_false]
  dsimp only
  rw [aRefKeyMayBeTheName_at, hc']
  have hpn := putName_dict name (PyData.keyHash T.w.params name) (.str name (s.toks + 1)) v es k
  have hput : (s.heap.update dx (Obj.putName name (PyData.keyHash T.w.params name) (.str name (s.toks + 1)) v)).get? dx = some (dictOf (putL name (PyData.keyHash T.w.params name) (.str name (s.toks + 1)) v es) (putN name es k)) := by
    rw [← hpn]
    refine Heap.get?_update_self _ hdx ?_
    show (Obj.putName _ _ _ _ (dictOf es k)).isFreed = false
    rw [hpn]; rfl
  refine wpAny_updatePart hdx ?_
  refine wpAny_bind (wpAny_lookBehind hput (pastItsLine_dict ?_) ?_)
  · rw [List.size_toArray, sizeLine_eq]
    have : (putL name (PyData.keyHash T.w.params name) (.str name (s.toks + 1)) v es).length ≤ es.length + 1 := putL_len es
    omega
  · exact wpAny_pure h
where
  putL_len {name : Str} {hh : Int} {key v : Value} : ∀ es : List DictEntry, (putL name hh key v es).length ≤ es.length + 1
    | [] => by simp [putL]
    | e :: r => by
      unfold putL
      split
      · simp
      · have := putL_len (name := name) (hh := hh) (key := key) (v := v) r
        simp only [List.length_cons]; omega
end
end Mine
end
section
open PySem PySem.Calls PyProof.Rows PySem.W
set_option linter.all false
namespace Mine
section
variable {T : St} {n : Nat} {env : Env} {Γ Γ' : Gm} {C : Addr} {fs : List (Str × PyData)} {Q : Fw → Gm → Prop}
theorem FldO.no {d₀ : Addr → Prop} {own : Own} {h : Heap} {o : Option Str} {es : List DictEntry} {f : Str} (r : FldO T d₀ env own h o es fs) (hl : fs.lookup f = none) : es.find? (·.key.isStr f) = none := (r.rep (R := fun _ => True) (fun _ _ => trivial) fun _ _ => trivial).no hl
theorem FldO.put {d₀ : Addr → Prop} {own : Own} {h : Heap} {o : Option Str} {f : Str} {d : PyData} {v : Value} {t : Tok} (hv : (o ≠ some f ∧ Rep T.w (regOf d₀ env own .c) h v d) ∨ (o = some f ∧ env.kindOf gN = none ∧ ∃ pd as, v = .ref pd ∧ own gN = some pd ∧ Reads h v d (pd :: as) ∧ (∀ b ∈ as, regOf d₀ env own .c b) ∧ Dok T.w h (pd :: as))) :
    ∀ {es : List DictEntry} {fs : List (Str × PyData)}, FldO T d₀ env own h o es fs → fs.lookup f = none → FldO T d₀ env own h o (putL f (PyData.keyHash T.w.params f) (.str f t) v es) (fs ++ [(f, d)])
  | [], [], _, _ => ⟨⟨⟨t, rfl⟩, rfl⟩, hv, trivial⟩
  | e :: es, (x, d') :: fs, ⟨h1, h2, r⟩, hl => by
    obtain ⟨⟨t', hk⟩, hh⟩ := h1
    rw [List.lookup_cons] at hl
    by_cases hx : f = x
    · subst hx; simp at hl
    · have hx' : (f == x) = false := by simpa using hx
      rw [hx'] at hl
      have hne : e.key.isStr f = false := by rw [hk]; show (x == f) = false; simpa using Ne.symm hx
      unfold putL
      rw [hne, if_neg (by decide)]
      exact ⟨⟨⟨t', hk⟩, hh⟩, h2, FldO.put hv r hl⟩
theorem FldO.mark {d₀ : Addr → Prop} {own : Own} {h : Heap} {f : Str} : ∀ {es : List DictEntry} {fs : List (Str × PyData)}, FldO T d₀ env own h none es fs → fs.lookup f = none → FldO T d₀ env own h (some f) es fs
  | [], [], _, _ => trivial
  | e :: es, (x, d') :: fs, ⟨h1, h2, r⟩, hl => by
    rw [List.lookup_cons] at hl
    by_cases hx : f = x
    · subst hx; simp at hl
    · have hx' : (f == x) = false := by simpa using hx
      rw [hx'] at hl
      refine ⟨h1, .inl ⟨by simpa using hx, ?_⟩, FldO.mark r hl⟩
      rcases h2 with h2 | h2
      · exact h2.2
      · exact absurd h2.1 (by simp)
theorem Ex1.setG {x f : Str} {p₁ p₂ p₃ : Pos} {e : PySem.Expr} {d : PyData} {a : Addr} {o o' : Option Str} (c : ClsOk T C) (he : EvF T n env Γ e d) (ho : o' = o ∧ o ≠ some f ∨ o = none ∧ o' = some f ∧ isMut d = true ∧ env.kindOf gN = none ∧ ∀ y v z, (y, some (v, .s z)) ∈ Γ → y = x)
    (hm : (x, some (.i C fs, .s (a, o))) ∈ Γ) (hl : fs.lookup f = none) (ht : takerIn T.K C f = some none) (hz : fs.length < 1000)
    (hp : Put Γ x (some (.i C (fs ++ [(f, d)]), .s (a, o'))) Γ') (hs : swapsWith e (some (.Attribute (.Name x p₁) f p₂)) p₃.line env = pure false) (hq : Q .next Γ') : Ex1 T n env Γ (.Assign [.Attribute (.Name x p₁) f p₂] e p₃) Q := ⟨fun {A s₀ d₀ own s E QQ} hA S h hx => by
  refine plainObj_wpAny_Assign_Attribute (he.run hA S.rd fun val s₁ k₁ r₁ => ?_) hs
  -- the new owner, if there is one
  have hown : ∃ own', (∀ y, y ≠ gN ∨ own' = own → own' y = own y) ∧ SI T s₀ d₀ env own' Γ s₁ ∧ OwnLe own own' s ∧ ((o' ≠ some f ∧ Rep T.w (regOf d₀ env own' .c) s₁.heap val d) ∨ (o' = some f ∧ env.kindOf gN = none ∧ ∃ pd as, val = .ref pd ∧ own' gN = some pd ∧ Reads s₁.heap val d (pd :: as) ∧ (∀ b ∈ as, regOf d₀ env own' .c b) ∧ Dok T.w s₁.heap (pd :: as))) := by
    rcases ho with ⟨rfl, hne⟩ | ⟨rfl, rfl, hmu, hgk, hone⟩
    · exact ⟨own, fun _ _ => rfl, S.kp k₁, .refl _ _, .inl ⟨hne, r₁.rep⟩⟩
    · obtain ⟨pd, as, e1, e2, e3, e4, e5, e6, e7⟩ := r₁.top hmu
      obtain ⟨m, cm, F, hn⟩ := S.frm
      have hf := S.fresh e5
      have sub : ∀ y b, (if y = gN then some pd else own y) = some b → (y = gN ∧ b = pd) ∨ (y ≠ gN ∧ own y = some b) := fun y b q => by
        by_cases hy : y = gN
        · rw [if_pos hy] at q; cases q; exact .inl ⟨hy, rfl⟩
        · rw [if_neg hy] at q; exact .inr ⟨hy, q⟩
      have old : ∀ y b, own y = some b → b ≠ pd := fun y b q e => by
        obtain ⟨_, _, _, ob, h4, _⟩ := S.ownNew y b q
        rw [e, e5] at h4; cases h4
      have up : ∀ fl b, regOf d₀ env own fl b → b ≠ pd → regOf d₀ env (fun y => if y = gN then some pd else own y) fl b := fun fl b hb hbp => by
        have hno : (∀ y, own y ≠ some b) → ∀ y, (if y = gN then some pd else own y) ≠ some b := fun hb y q => by
          rcases sub y b q with ⟨_, q⟩ | ⟨_, q⟩
          · exact hbp q
          · exact hb y q
        cases fl with
        | o => trivial
        | s _ => trivial
        | b => exact ⟨hb.1, hb.2.1, hno hb.2.2⟩
        | c => exact ⟨hb.1, hb.2.1, hb.2.2.1, hno hb.2.2.2⟩
      have real : ∀ y v fl, (y, some (v, fl)) ∈ Γ → y ≠ gN := fun y v fl hy q => by
        obtain ⟨_, l, _⟩ := hn y v fl hy
        rw [q] at l
        rcases l with ⟨kk, _⟩ | ⟨kk, _⟩ <;> rw [hgk] at kk <;> cases kk
      have S₁ := S.kp k₁
      refine ⟨fun y => if y = gN then some pd else own y, fun y hy => ?_, ⟨S.eok, S.cok, S.ok, S.wd0, S.d0, fun y b q => ?_, fun y z b q1 q2 => ?_, m, cm, F.kp k₁, fun y v fl hy => ?_⟩, fun y b q => ?_, .inr ⟨rfl, hgk, pd, as, e1, by simp, e2, fun b hb => up .c b (e3 b hb) fun q => e6 (q ▸ hb), e4⟩⟩
      · rcases hy with hy | hy
        · exact if_neg hy
        · exact congrFun hy y
      · rcases sub y b q with ⟨_, rfl⟩ | ⟨_, q⟩
        · exact ⟨F.keep.none e5, hf.2.1, hf.2.2.1, e7⟩
        · exact S₁.ownNew y b q
      · rcases sub y b q1 with ⟨u1, v1⟩ | ⟨u1, v1⟩ <;> rcases sub z b q2 with ⟨u2, v2⟩ | ⟨u2, v2⟩
        · rw [u1, u2]
        · exact absurd v1 (old z b v2)
        · exact absurd v2 (old y b v1)
        · exact S.ownInj y z b v1 v2
      · obtain ⟨val', l, r⟩ := hn y v fl hy
        refine ⟨val', l, ?_⟩
        have hne : ∀ b, s.heap.get? b ≠ none → b ≠ pd := fun b hb q => hb (q ▸ e5)
        cases fl with
        | c => exact (RepV.mono (RepV.there r) fun b hb => up .c b hb.1 (hne b hb.2)).keeps k₁.h
        | b => exact (RepV.mono (RepV.there r) fun b hb => up .b b hb.1 (hne b hb.2)).keeps k₁.h
        | o =>
          obtain ⟨d1, a1, as1, g1, g2, g3, g4, g5, g6⟩ := r
          exact ⟨d1, a1, as1, g1, g2, by show (if y = gN then some pd else own y) = some a1; rw [if_neg (real y _ _ hy)]; exact g3, reads_kp k₁.h g4, fun b hb => up .c b (g5 b hb) (hne b (by obtain ⟨ob, e, _⟩ := g6 b (.tail _ hb); rw [e]; simp)), g6.keeps k₁.h⟩
        | s z =>
          obtain rfl := hone y v z hy
          have hz := S.ok.nodup
          obtain ⟨C1, fs1, dx1, es1, n1, g1, g2, g3, g4, g5, g6, g7⟩ := r
          have hzo : z = (a, none) := by
            have := mem_unique hz hy hm
            cases this; rfl
          subst hzo
          refine ⟨C1, fs1, dx1, es1, n1, g1, g2, by show (if _ = gN then some pd else own _) = _; rw [if_neg (real _ _ _ hy)]; exact g3, up .c _ g4 (hne _ (by rw [g5]; simp)), k₁.h.get g5 (by simp), k₁.h.get g6 (by simp), ?_⟩
          exact fldO_none (fun b hb hn => up .c b hb (hne b hn)) k₁.h g7
      · rcases sub y b q with ⟨_, rfl⟩ | ⟨_, q⟩
        · exact .inr e5
        · exact .inl ⟨y, q⟩
  obtain ⟨own', hsame, S₁, hle, hval⟩ := hown
  have hfr := S₁.frm
  obtain ⟨m, cm, F, hn⟩ := hfr
  obtain ⟨sv, l, C', fs', dx, es, k, e1, e2, e3, e4, e5, e6, e7⟩ := hn x _ _ hm
  cases e1
  subst e2
  have hd := S.ok.nodebug x (List.mem_map_of_mem (f := fun p : Str × Slot => p.1) hm)
  refine ld_name S.eok.kind (l.is F) hd ?_
  have hnr := (e7.rep (R := fun _ => True) (fun _ _ => trivial) fun _ _ => trivial)
  refine set_field S₁.wd c e5 e6 ht (e7.no hl) hnr.noRef (by rw [hnr.length]; exact hz) ?_
  have hpn := putName_dict f (PyData.keyHash T.w.params f) (.str f (s₁.toks + 1)) val es k
  generalize hh' : s₁.heap.update dx (Obj.putName f (PyData.keyHash T.w.params f) (.str f (s₁.toks + 1)) val) = h'
  have hput : h'.get? dx = some (dictOf (putL f (PyData.keyHash T.w.params f) (.str f (s₁.toks + 1)) val es) (putN f es k)) := by
    rw [← hh', ← hpn]
    refine Heap.get?_update_self _ e6 ?_
    show (Obj.putName _ _ _ _ (dictOf es k)).isFreed = false
    rw [hpn]; rfl
  have S₂ : SI T s₀ d₀ env own' Γ { s₁ with toks := s₁.toks + 2 } := S₁.kp (.tok _ _)
  have hbut : Heap.SameBut dx s₁.heap h' := hh' ▸ Heap.SameBut.update s₁.heap dx _
  have chg : ChgH T.N (· = dx) s₁.heap h' := ChgH.of_but hbut
  have ntup : ∀ z, z = dx → NotTup s₁.heap z := fun z hz => May.notTup S₁ z (.inr (.inr ⟨x, hz ▸ e3⟩))
  have xr : env.kindOf x ≠ none := fun q => by rcases l with ⟨kk, _⟩ | ⟨kk, _⟩ <;> rw [q] at kk <;> cases kk
  obtain ⟨S₃, p₃⟩ := S₂.mutateG (x := x) (g := x) (a := dx) (h' := h') hm e3 (.inl rfl) hp hbut hput ⟨⟨rfl, fun vs q => by cases q⟩, by simp [dictOf], by simp [dictOf]⟩ (fun v' r' => by
    obtain ⟨C'', fs'', dx', es', k', f1, f2, f3, f4, f5, f6, f7⟩ := r'
    cases f1
    rw [e3] at f3; cases f3
    have f6' : s₁.heap.get? dx = some { cls := .type "dict", data := .dict (List.toArray es') k' } := f6
    have : ({ cls := .type "dict", data := .dict (List.toArray es) k } : Obj) = { cls := .type "dict", data := .dict (List.toArray es') k' } := Option.some.inj (e6.symm.trans f6')
    simp only [Obj.mk.injEq, Data.dict.injEq, true_and, and_true] at this
    obtain ⟨q1, q2⟩ := this
    have q1' : es = es' := by simpa using q1
    subst q1'; subst q2
    refine ⟨C, _, dx, _, _, rfl, f2, e3, f4, chg.plain e5 (fun q => f4.2.2.2 x (q ▸ e3)) (by simp), hput, ?_⟩
    have e8 : FldO T d₀ env own' s₁.heap o' es fs := by
      rcases ho with ⟨rfl, _⟩ | ⟨rfl, rfl, _⟩
      · exact e7
      · exact e7.mark hl
    exact FldO.chg (N := T.N) chg ntup (fun v d as r hd hr b hb q => by
      rcases hr b hb with hr | ⟨hg, hr⟩
      · exact hr.2.2.2 x (q ▸ e3)
      · have := S₁.ownInj gN x dx (q ▸ hr) e3
        exact xr (this ▸ hg)) (fun b hb _ => hb) (fun b _ hb => hb) (FldO.put hval e8 hl))
  have p₂ : Pres T.N env own s { s₁ with toks := s₁.toks + 2 } := .of_kp (k₁.trans (.tok _ _))
  exact h _ .next _ Γ' own' S₃ (p₂.trans hle p₃) hle trivial hq⟩
where
  mem_unique : ∀ {Γ : Gm} {x : Str} {u v : Slot}, (Γ.map (·.1)).Nodup → (x, u) ∈ Γ → (x, v) ∈ Γ → u = v
    | [], _, _, _, _, h, _ => nomatch h
    | (y, w) :: Γ, x, u, v, hn, h1, h2 => by
      simp only [List.map_cons, List.nodup_cons] at hn
      rcases List.mem_cons.mp h1 with e | h1 <;> rcases List.mem_cons.mp h2 with e' | h2
      · cases e; cases e'; rfl
      · cases e; exact absurd (List.mem_map_of_mem (f := fun p : Str × Slot => p.1) h2) hn.1
      · cases e'; exact absurd (List.mem_map_of_mem (f := fun p : Str × Slot => p.1) h1) hn.1
      · exact mem_unique hn.2 h1 h2
  fldO_none {T : St} {env : Env} {d₀ : Addr → Prop} {own own' : Own} {h h' : Heap} (hR : ∀ b, regOf d₀ env own .c b → h.get? b ≠ none → regOf d₀ env own' .c b) (hk : KpH T.N h h') : ∀ {es : List DictEntry} {fs : List (Str × PyData)}, FldO T d₀ env own h none es fs → FldO T d₀ env own' h' none es fs
    | [], [], _ => trivial
    | e :: es, (x, d) :: fs, ⟨h1, h2, h3⟩ => by
      refine ⟨h1, .inl ⟨by simp, ?_⟩, fldO_none hR hk h3⟩
      rcases h2 with h2 | h2
      · exact (Rep.mono (Rep.there h2.2) fun b hb => hR b hb.1 hb.2).keeps hk
      · exact absurd h2.1 (by simp)
theorem Ex1.setA {x f : Str} {p₁ p₂ p₃ : Pos} {e : PySem.Expr} {d : PyData} {a : Addr} {o : Option Str} (c : ClsOk T C) (he : EvF T n env Γ e d) (ho : o ≠ some f) (hm : (x, some (.i C fs, .s (a, o))) ∈ Γ) (hl : fs.lookup f = none) (ht : takerIn T.K C f = some none) (hz : fs.length < 1000)
    (hp : Put Γ x (some (.i C (fs ++ [(f, d)]), .s (a, o))) Γ') (hs : swapsWith e (some (.Attribute (.Name x p₁) f p₂)) p₃.line env = pure false) (hq : Q .next Γ') : Ex1 T n env Γ (.Assign [.Attribute (.Name x p₁) f p₂] e p₃) Q :=
  Ex1.setG c he (.inl ⟨rfl, ho⟩) hm hl ht hz hp hs hq

structure Inits (T : St) (n : Nat) (fa C : Addr) (xs : List Vl) (fs : List (Str × PyData)) : Prop where
  run : ∀ {A : Around} {s : Shared} {R : Result → Shared → Prop} {vals : List Value} {x dx : Addr} {g : Heap} (D : Addr → Prop), Amb n A → Wd T s.heap → Wd T g → (∀ b o, g.get? b = some o → s.heap.get? b = some o) → (∀ a, D a → g.get? a ≠ none) → RepAs T.w g vals xs →
    g.get? x = none → g.get? dx = none → x ≠ dx → s.heap.get? x = some { cls := .ref C, dict := some dx } → s.heap.get? dx = some { cls := .type "dict", data := .dict #[] 0 } →
    (∀ s', (∃ h tk, s' = { s with heap := h, toks := tk }) → KpH T.N g s'.heap → InstRep T.w (fun a => ¬ D a) s'.heap (.ref x) C fs → R (.ok (.ret .none)) s') → codeAny T.M A (.call (.ref fa) ⟨.ref x :: vals, []⟩) R s
theorem Amb.make {A : Around} (x : Amb (n + 1) A) (C : Addr) (rest : List Value) (kw : List (Str × Value)) : Amb n (A.under (.builtin "type.__call__" ⟨.ref C :: rest, kw⟩)) := by
  have h1 : (Code.builtin "type.__call__" ⟨.ref C :: rest, kw⟩).weight = 1 := by kernel_rfl
  have h2 : (Code.builtin "type.__call__" ⟨.ref C :: rest, kw⟩).cUnits = 1 := by kernel_rfl
  refine ⟨x.handled, ?_, ?_⟩
  · have := x.depth
    show A.depth + (Code.builtin "type.__call__" ⟨.ref C :: rest, kw⟩).weight + n < _
    rw [h1]; omega
  · have := x.units
    show A.units + (Code.builtin "type.__call__" ⟨.ref C :: rest, kw⟩).cUnits + 10 * n + 100 < _
    rw [h2]; omega

theorem Ev.make {m : Nat} {f : Str} {p pos : Pos} {args : List PySem.Expr} {xs : List (Vl × Fl)} {fa : Addr} (hx : env.kindOf f = some .globalImplicit) (hd : (f == ("__debug__" : Str)) = false) (hg : T.mg f = some (.ref C)) (hmk : makesIn T.K C = true) (hkp : keepIn T.K (.ref C) = true)
    (hi : findIn T.K (.ref C) "__init__" = some (some (.ref fa))) (hf : typeIn T.K (.ref fa) = some (.type "function"))
    (ha : EvA T n env Γ args xs) (hc : Inits T m fa C (xs.map (·.1)) fs) (hm : m + 1 ≤ n) : Ev T n env Γ (.Call (.Name f p) args [] pos) (.i C fs) .c := ⟨fun {A reg s E Q} hA R h => by
  refine Call_Name rfl (ld_global R hx hd hg (callWith_of (P := fun h => Frag.In T.K h) (by rw [ha.plain]; rfl) (keeps_K hkp) (evalArgs_any (ha.plain pos) (ha.run hA R fun vals s₁ k₁ r₁ => ⟨(R.wd.kp k₁.h).frag, ?_⟩))))
  have w₁ := R.wd.kp k₁.h
  refine wpAny_call ?_
  obtain ⟨hh, gg, dd, tt, oo⟩ := s₁
  refine make_core (makes_of w₁.frag hmk) (looks_findIn w₁.frag hi) (fun self => bind_fn w₁.frag self hf) (.inl rfl) ?_
  have keep : ∀ b o, hh.get? b = some o → ((hh.push emptyDict).push (instObj C hh.objs.size)).get? b = some o := fun b o e => Heap.get?_push_of_some _ (Heap.get?_push_of_some _ e)
  have hn1 : hh.get? (hh.objs.size + 1) = none := Heap.get?_none_of_le (Nat.le_succ _)
  have hn2 : hh.get? hh.objs.size = none := Heap.get?_none_of_le (Nat.le_refl _)
  refine (hc.run (g := hh) (x := hh.objs.size + 1) (dx := hh.objs.size) (fun b => ¬ reg .c b) ((hA.le hm).make _ _ _) (w₁.kp (.of keep)) w₁ keep (fun b hb e => hb ((R.regs.kp k₁.h).fresh .c b e)) r₁.any hn1 hn2 (Nat.succ_ne_self _) ?_ ?_ fun s' hs' hk' hr' => ?_)
  · heap_get
  · heap_get
  · refine ⟨rfl, ?_⟩
    obtain ⟨h', tk, rfl⟩ := hs'
    exact h _ _ (k₁.trans ⟨h', tk, rfl, hk'⟩) (RepV.mono (x := .i C fs) hr' fun b hb => Classical.byContradiction hb)⟩

theorem Inits.def {fa : Addr} {xs : List Vl} {self : Str} {name qual : Str} {params : Arguments} {body : List Stmt} {scope : Scope} {dV kV doc pm cdv ct oc : Value} {an od : Option Addr} {osl : Array (Option Value)} {ps ls : List Str} {Γp : Gm}
    (ho : T.K.lookup fa = some ⟨oc, od, .func (fnOf name qual params body scope dV kV doc pm an cdv ct), osl⟩) (hcd : codeIn T.K cdv qual = true)
    (hb : Binds (fnOf name qual params body scope dV kV doc pm an cdv ct) (self :: ps)) (hp : Prm ps xs Γp) (hok : GmOk ((self :: ps) ++ ls)) (hk : ∀ x ∈ self :: ps, scope.names.lookup x = some .local ∨ scope.names.lookup x = some .cell)
    (hsc : scope.kind = .function ∧ scope.isCoroutine = false ∧ scope.isGenerator = false)
    (h : ∀ (a : Addr) (env : Env), env.scope = scope → Ex T n env ((self, some (.i C [], .s (a, none))) :: Γp ++ ls.map fun x => (x, none)) body (fun f Γ' => f = .next ∧ ∃ o, (self, some (.i C fs, .s (a, o))) ∈ Γ')) : Inits T (n + 1) fa C xs fs :=
  ⟨fun {A s R vals x dx g} D hA hw hwg hgs hD hr hgx hgd hne hox hod hq => by
    have hsx : ∀ b, g.get? b ≠ none → s.heap.get? b ≠ none := fun b q => by
      cases e : g.get? b with
      | none => exact absurd e q
      | some o => rw [hgs b o e]; simp
    refine codeAny_mono (call_enterC (Γp := (self, some (.i C [], .s (x, none))) :: Γp) (own := fun y => if y = self then some dx else none) (g := g) (D := D) (Q := fun v s' => v = .none ∧ R (.ok (.ret .none)) s') (E := fun _ _ => False) ho hcd hb (by rw [List.map_cons, hp.names]) hok hk hsc (by have := hA.depth; omega) hw hgs hwg hD (by simp [hr.length, hp.length]) (fun y a e => ?_) (fun y z a e1 e2 => ?_) (fun env hL hC hkd y v fl hm => ?_) fun env s₁ he _ _ S _ => ?_) (fun r s' z => ?_)
    · by_cases hy : y = self
      · simp [hy] at e; subst e
        exact ⟨hgd, _, hod, ⟨rfl, fun vs q => by cases q⟩, by simp, by simp⟩
      · simp [hy] at e
    · by_cases hy : y = self <;> by_cases hz : z = self
      · rw [hy, hz]
      · simp [hz] at e2
      · simp [hy] at e1
      · simp [hy] at e1
    · have xL : x ≠ env.locals := fun q => by rw [q, hL] at hox; cases hox
      have xC : ∀ y c, env.cells.lookup y = some c → x ≠ c := fun y c hc q => by rw [q, hC y c hc] at hox; cases hox
      rcases List.mem_cons.mp hm with e | hm
      · cases e
        refine ⟨.ref x, .head _, C, [], dx, [], 0, rfl, rfl, by simp, ⟨fun hd => hD x hd hgx, xL, xC, fun y q => ?_⟩, hox, hod, trivial⟩
        by_cases hy : y = self
        · simp [hy] at q; exact hne q.symm
        · simp [hy] at q
      · obtain ⟨val, h1, h2, h3, h4⟩ := hp.get hr y v fl hm
        refine ⟨val, .tail _ h1, ?_⟩
        cases fl with
        | o => exact absurd rfl h3.1
        | s z => exact absurd rfl (h3.2 z)
        | c =>
          obtain ⟨d', rfl, hs⟩ := h4 rfl
          exact Rep.keeps (N := T.N) (Rep.still h2 hs) (.of hgs)
        | b =>
          refine RepV.keeps (N := T.N) (RepV.mono (RepV.there h2) fun b hb => ⟨fun q => hsx b hb.2 (q ▸ hL), fun y c hc q => hsx b hb.2 (q ▸ hC y c hc), fun y q => ?_⟩) (.of hgs)
          by_cases hy : y = self
          · simp [hy] at q; exact hb.2 (q ▸ hgd)
          · simp [hy] at q
    · refine (h x env he).run (hA.deeper _) S (fun f f' s' Γ' own' S' p o fr q => ?_) fun k e s' Γ' own' S' p o er q => er.elim
      obtain ⟨rfl, o', hm⟩ := q
      cases f <;> first | exact fr.elim | skip
      obtain ⟨m, cm, F', hn⟩ := S'.frm
      obtain ⟨val, l, C', fs', dx', es, k, e1, e2, e3, e4, e5, e6, e7⟩ := hn _ _ _ hm
      cases e1
      refine ⟨rfl, hq s' ?_ F'.keep ⟨x, dx', es, k, rfl, e4.1, fun hd => hD _ hd (S'.ownNew _ _ e3).1, e5, e6, e7.rep (fun b hb => hb.1) fun b hb hd => hD _ hd (S'.ownNew _ _ hb).1⟩⟩
      · obtain ⟨h', tk, e⟩ := F'.same; exact ⟨h', tk, e⟩
    · rcases r with e | (v | _ | _ | _) <;> first | exact z.elim | skip
      obtain ⟨rfl, z⟩ := z
      exact z⟩
end
end Mine
namespace Mine
theorem Calls.defK {T : St} {K : Frag} {n : Nat} {a : Addr} {xs : List Vl} {d : PyData} {name qual : Str} {params : Arguments} {body : List Stmt} {scope : Scope} {dV kV doc pm cdv ct oc : Value} {an od : Option Addr} {osl : Array (Option Value)} {Γp : Gm}
    (G : GdK T K) (ps ls : List Str) (ho : K.lookup a = some ⟨oc, od, .func (fnOf name qual params body scope dV kV doc pm an cdv ct), osl⟩) (hcd : codeIn K cdv qual = true)
    (hb : Binds (fnOf name qual params body scope dV kV doc pm an cdv ct) ps) (hp : Prm ps xs Γp) (hok : okNames (ps ++ ls) = true) (hk : okPrm scope ps = true)
    (hsc : scope.kind = .function ∧ scope.isCoroutine = false ∧ scope.isGenerator = false)
    (h : ∀ env : Env, env.scope = scope → Ex T n env (Γp ++ ls.map fun x => (x, none)) body (Ends d)) : Calls T (n + 1) a xs d ∧ ∃ fd, FnAt T a fd :=
  ⟨Calls.def (by rw [G.k]; exact ho) (by rw [G.k]; exact hcd) hb hp (okNames_ok hok) (okPrm_ok hk) hsc h, _, _, by rw [G.k]; exact ho, rfl⟩
theorem Inits.defK {T : St} {K : Frag} {n : Nat} {fa C : Addr} {fs : List (Str × PyData)} {xs : List Vl} {name qual : Str} {params : Arguments} {body : List Stmt} {scope : Scope} {dV kV doc pm cdv ct oc : Value} {an od : Option Addr} {osl : Array (Option Value)} {Γp : Gm}
    (G : GdK T K) (self : Str) (ps ls : List Str) (ho : K.lookup fa = some ⟨oc, od, .func (fnOf name qual params body scope dV kV doc pm an cdv ct), osl⟩) (hcd : codeIn K cdv qual = true)
    (hb : Binds (fnOf name qual params body scope dV kV doc pm an cdv ct) (self :: ps)) (hp : Prm ps xs Γp) (hok : okNames ((self :: ps) ++ ls) = true) (hk : okPrm scope (self :: ps) = true)
    (hsc : scope.kind = .function ∧ scope.isCoroutine = false ∧ scope.isGenerator = false)
    (h : ∀ (a : Addr) (env : Env), env.scope = scope → Ex T n env ((self, some (.i C [], .s (a, none))) :: Γp ++ ls.map fun x => (x, none)) body (fun f Γ' => f = .next ∧ ∃ o, (self, some (.i C fs, .s (a, o))) ∈ Γ')) : Inits T (n + 1) fa C xs fs :=
  Inits.def (by rw [G.k]; exact ho) (by rw [G.k]; exact hcd) hb hp (okNames_ok hok) (okPrm_ok hk) hsc h
end Mine
end
section
open PySem PySem.Calls PyProof.Rows PySem.W
set_option linter.all false
namespace Mine
section
variable {prog : Program} {w : World} {R : Addr → Prop} {h h' : Heap}
theorem dict_parts {m : List (List Nat × PyData)} {a : Addr} {as : List Addr} (r : Reads h (.ref a) (dictD m) (a :: as)) (hd : Dok w h (a :: as)) (hn : (m.map (·.1)).Nodup) :
    a ≠ sysModules ∧ ∃ vs, h.DictOf (strKind prog w) a ((m.map fun p => mkS p.1).zip vs) ∧ ReadsAll h vs (m.map (·.2)) as := by
  generalize hc : a :: as = cs at r hd
  cases r with
  | @dict a' o es n _ as' bs ho hc' hdat hks hvs =>
    have e1 : (m.map fun p => ((.str (mkS p.1), p.2) : PyData × PyData)).map (·.1) = m.map fun p => .str (mkS p.1) := by rw [List.map_map]; rfl
    have e2 : (m.map fun p => ((.str (mkS p.1), p.2) : PyData × PyData)).map (·.2) = m.map (·.2) := by rw [List.map_map]; rfl
    rw [e1] at hks; rw [e2] at hvs
    have hz := readsAll_nil hks
    subst hz
    simp only [List.cons_append, List.nil_append, List.cons.injEq, true_and] at hc
    subst hc
    obtain ⟨o', ho', hdk⟩ := hd a (by simp)
    rw [ho] at ho'; cases ho'
    obtain ⟨h1, h2, h3⟩ := hdk _ _ hdat
    have hP := pairs_of (prog := prog) (w := w) hks hvs
    have hlen : (es.toList.map (·.val)).length = m.length := by
      have hA : RepAll w (fun _ => True) h (es.toList.map (·.val)) (m.map (·.2)) := ⟨as, hvs, fun _ _ => trivial, fun b hb => hd b (by simp [hb])⟩
      rw [hA.length, List.length_map]
    refine ⟨h1, es.toList.map (·.val), ⟨o, es, n, ho, ⟨h2.1, h2.2.1, h2.2.2⟩, hdat, fun e he => ?_, hP, ?_⟩, hvs⟩
    · obtain ⟨y, t, q1, q2⟩ := h3 e (by simpa using he)
      exact ⟨y, by show Value.isStrOf y e.key = true; rw [q1]; show (y == y) = true; simp, q2⟩
    · rw [zip_keys hlen]
      exact List.pairwise_map.mpr ((List.pairwise_map.mp hn).imp fun h e => h (mkS_inj.mp e))
theorem keys_reads {h : Heap} : ∀ {es : List DictEntry} {m : List (List Nat × PyData)} {vs : List Value}, vs.length = m.length → Pairs (strKind prog w) es ((m.map fun p => mkS p.1).zip vs) → ReadsAll h (es.map (·.key)) (m.map fun p => .str (mkS p.1)) [] ∧ es.map (·.val) = vs
  | [], [], [], _, _ => ⟨.nil, rfl⟩
  | [], [], _ :: _, h, _ => by simp at h
  | _, _ :: _, [], h, _ => by simp at h
  | [], _ :: _, _ :: _, _, p => nomatch p
  | _ :: _, [], [], _, p => nomatch p
  | _ :: _, [], _ :: _, h, _ => by simp at h
  | e :: es, q :: m, v :: vs, h, .cons h1 h2 h3 => by
    obtain ⟨i1, i2⟩ := keys_reads (m := m) (vs := vs) (by simpa using h) h3
    obtain ⟨t, ht⟩ := Value.isStrOf_shape h1
    refine ⟨?_, ?_⟩
    · rw [List.map_cons, ht]; exact ReadsAll.cons (as := []) (bs := []) (.str _ _) i1
    · rw [List.map_cons, i2]; exact congrArg (· :: vs) h2
theorem dict_reads {m : List (List Nat × PyData)} {a : Addr} {vs : List Value} {as : List Addr} (hs : a ≠ sysModules) (hd : h.DictOf (strKind prog w) a ((m.map fun p => mkS p.1).zip vs)) (hv : ReadsAll h vs (m.map (·.2)) as) (hk : Dok w h as) :
    Reads h (.ref a) (dictD m) (a :: as) ∧ Dok w h (a :: as) ∧ ∃ o, h.get? a = some o ∧ (o.dict = none ∧ ∀ vs, o.data ≠ .fields vs) ∧ o.cls ≠ .type "tuple" ∧ o.cls ≠ .type "frame" := by
  obtain ⟨o, es, ep, ho, hx, hdat, hks, hP, hnd⟩ := hd
  have hlen : vs.length = m.length := by
    have hA : RepAll w (fun _ => True) h vs (m.map (·.2)) := ⟨as, hv, fun _ _ => trivial, hk⟩
    rw [hA.length, List.length_map]
  obtain ⟨k1, k2⟩ := keys_reads hlen hP
  have e1 : (m.map fun p => ((.str (mkS p.1), p.2) : PyData × PyData)).map (·.1) = m.map fun p => .str (mkS p.1) := by rw [List.map_map]; rfl
  have e2 : (m.map fun p => ((.str (mkS p.1), p.2) : PyData × PyData)).map (·.2) = m.map (·.2) := by rw [List.map_map]; rfl
  refine ⟨Reads.dict (as := []) (bs := as) ho hx.1 hdat (by rw [e1]; exact k1) (by rw [e2, k2]; exact hv), fun b hb => ?_, o, ho, ⟨hx.2.1, fun vs q => by rw [hdat] at q; cases q⟩, by rw [hx.1]; simp, by rw [hx.1]; simp⟩
  rcases List.mem_cons.mp hb with rfl | hb
  · refine ⟨o, ho, fun es' n' q => ⟨hs, ⟨hx.1, hx.2.1, hx.2.2⟩, fun e he => ?_⟩⟩
    rw [hdat] at q; cases q
    obtain ⟨y, q1, q2⟩ := hks e (by simpa using he)
    obtain ⟨t, ht⟩ := Value.isStrOf_shape q1
    exact ⟨y, t, ht, q2⟩
  · exact hk b hb
theorem stored_new : ∀ {m : List (List Nat × PyData)} {vs : List Value} {k : List Nat} {d : PyData} {v : Value}, vs.length = m.length → m.lookup k = none →
    stored ((m.map fun p => mkS p.1).zip vs) (mkS k) v = ((m ++ [(k, d)]).map fun p => mkS p.1).zip (vs ++ [v]) := by
  intro m vs k d v hlen hl
  have hno : ((m.map fun p => mkS p.1).zip vs).any (fun kv => kv.1 = mkS k) = false := by
    rw [List.any_eq_false]
    intro kv hkv
    have h1 := List.of_mem_zip hkv
    obtain ⟨p, hp, e⟩ := List.mem_map.mp h1.1
    simp only [decide_eq_true_eq]
    intro q
    have : p.1 = k := mkS_inj.mp (e.trans q)
    have hlk : m.lookup k ≠ none := by
      clear hl hlen hkv h1 e q
      induction m with
      | nil => cases hp
      | cons r m ih =>
        rw [show r = (r.1, r.2) from rfl, List.lookup_cons]
        by_cases hr : k = r.1
        · simp [hr]
        · have : (k == r.1) = false := by simpa using hr
          rw [this]
          rcases List.mem_cons.mp hp with rfl | hp
          · exact absurd ‹p.1 = k›.symm hr
          · exact ih hp
    exact hlk hl
  unfold stored
  rw [hno, if_neg (by decide), List.map_append, List.zip_append (by rw [List.length_map]; exact hlen.symm)]
  rfl
end
section
variable {T : St} {n : Nat} {env : Env} {Γ Γ' : Gm} {Q : Fw → Gm → Prop} {m : List (List Nat × PyData)}
theorem dict_store {A : Around} {E : Value → Shared → Prop} {QQ : Unit → Shared → Prop} {s : Shared} {R : Addr → Prop} {a : Addr} {as : List Addr} {k : List Nat} {t : Tok} {v : Value} {d : PyData}
    (r : Reads s.heap (.ref a) (dictD m) (a :: as)) (hd : Dok T.w s.heap (a :: as)) (hr : ∀ b ∈ as, R b) (hv : Rep T.w R s.heap v d) (hRa : ∀ b, R b → b ≠ a) (hn : (m.map (·.1)).Nodup) (hl : m.lookup k = none) (hz : m.length ≤ sizeLine)
    (h : ∀ h' o', Heap.SameBut a s.heap h' → h'.get? a = some o' → ((o'.dict = none ∧ ∀ vs, o'.data ≠ .fields vs) ∧ o'.cls ≠ .type "tuple" ∧ o'.cls ≠ .type "frame") →
      (∃ as', Reads h' (.ref a) (dictD (m ++ [(k, d)])) (a :: as') ∧ (∀ b ∈ as', R b) ∧ Dok T.w h' (a :: as')) → QQ () { s with heap := h', toks := s.toks + 1 }) : wpAny T.M A (setItem (.ref a) (.str (mkS k) t) v) QQ E s := by
  obtain ⟨hs, vs, hdo, hvs⟩ := dict_parts (prog := T.prog) r hd hn
  have hall : RepAll T.w R s.heap vs (m.map (·.2)) := ⟨as, hvs, hr, fun b hb => hd b (.tail _ hb)⟩
  have hlen : vs.length = m.length := by rw [hall.length, List.length_map]
  refine wpAny_setItem_pairs (knd := strKind T.prog T.w) (k := mkS k) (by show (mkS k == mkS k) = true; simp) hdo (fun h' hd' hb => ?_) (by rw [List.length_zip, List.length_map, hlen, Nat.min_self]; exact hz)
  rw [stored_new (d := d) hlen hl] at hd'
  have chg : ChgH T.N (· = a) s.heap h' := ChgH.of_but hb
  have ntup : ∀ z, z = a → NotTup s.heap z := fun z hz o vs k e hc hdat => by
    obtain ⟨o', _, _, ho, hx, _⟩ := hdo
    rw [hz, ho] at e; cases e
    rw [hx.1] at hc; simp at hc
  obtain ⟨bs, q1, q2, q3⟩ := RepAll.chg (hall.append (RepAll.cons hv RepAll.nil)) chg ntup fun b hb q => hRa b hb q
  have q1' : ReadsAll h' (vs ++ [v]) ((m ++ [(k, d)]).map (·.2)) bs := by rw [List.map_append]; exact q1
  obtain ⟨z1, z2, o, z3, z4⟩ := dict_reads hs hd' q1' q3
  exact h h' o hb z3 z4 ⟨bs, z1, q2, z2⟩
theorem Ex1.setNew {x : Str} {p₁ p₂ p₃ : Pos} {e ke : PySem.Expr} {k : List Nat} {d : PyData} {fk : Fl} (hm : (x, some (.d (dictD m), .o)) ∈ Γ) (he : Ev T n env Γ e (.d d) .c) (hk : Ev T n env Γ ke (.d (.str (mkS k))) fk) (hn : (m.map (·.1)).Nodup) (hl : m.lookup k = none) (hz : m.length ≤ sizeLine)
    (hp : Put Γ x (some (.d (dictD (m ++ [(k, d)])), .o)) Γ') (hs : swapsWith e (some (.Subscript (.Name x p₁) ke p₂)) p₃.line env = pure false) (hq : Q .next Γ') : Ex1 T n env Γ (.Assign [.Subscript (.Name x p₁) ke p₂] e p₃) Q := ⟨fun {A s₀ d₀ own s E QQ} hA S h hx => by
  refine wpAny_Assign_Subscript (he.run hA S.rd fun val s₁ k₁ r₁ => ?_) hs
  have S₁ := S.kp k₁
  obtain ⟨m₁, cm₁, F₁, hn₁⟩ := S₁.frm
  obtain ⟨vx, l, dd, a, as, e1, e2, e3, e4, e5, e6⟩ := hn₁ x _ _ hm
  cases e1
  subst e2
  have hdb := S.ok.nodebug x (List.mem_map_of_mem (f := fun p : Str × Slot => p.1) hm)
  refine ld_name S.eok.kind (l.is F₁) hdb (hk.run hA S₁.rd fun kv s₂ k₂ r₂ => ?_)
  obtain ⟨t, rfl⟩ := Rep.str_inv r₂
  have S₂ := S₁.kp k₂
  refine dict_store (R := regOf d₀ env own .c) (reads_kp k₂.h e4) (e6.keeps k₂.h) e5 (Rep.keeps r₁ k₂.h) (fun b hb q => hb.2.2.2 x (q ▸ e3)) hn hl hz fun h' o' hb ho' hok hrep => ?_
  obtain ⟨S₃, p₃⟩ := (S₂.kp (.tok s₂ (s₂.toks + 1))).mutate hm e3 hp hb ho' hok hrep
  exact h _ .next _ Γ' own S₃ ((Pres.of_kp ((k₁.trans k₂).trans (.tok _ _))).trans (.refl _ _) p₃) (.refl _ _) trivial hq⟩
end
end Mine
end
section
open PySem PySem.Calls PyProof.Rows PySem.W
set_option linter.all false
namespace Mine
inductive FSet (f : Str) (d' : PyData) : List (Str × PyData) → List (Str × PyData) → Prop where
  | here {d : PyData} {r : List (Str × PyData)} : FSet f d' ((f, d) :: r) ((f, d') :: r)
  | there {x : Str} {d : PyData} {r r' : List (Str × PyData)} : x ≠ f → FSet f d' r r' → FSet f d' ((x, d) :: r) ((x, d) :: r')
section
variable {T : St} {n : Nat} {env : Env} {Γ Γ' : Gm} {Q : Fw → Gm → Prop} {m : List (List Nat × PyData)} {C : Addr} {d₀ : Addr → Prop} {own : Own} {h h' : Heap} {f : Str}
theorem FldO.get {d : PyData} : ∀ {es : List DictEntry} {fs : List (Str × PyData)}, FldO T d₀ env own h (some f) es fs → fs.lookup f = some d →
    env.kindOf gN = none ∧ ∃ pd as, getL f es = some (some (.ref pd)) ∧ own gN = some pd ∧ Reads h (.ref pd) d (pd :: as) ∧ (∀ b ∈ as, regOf d₀ env own .c b) ∧ Dok T.w h (pd :: as)
  | [], [], _, e => by simp at e
  | e :: es, (x, d') :: fs, ⟨⟨⟨t, hk⟩, hh⟩, hv, r⟩, hl => by
    rw [List.lookup_cons] at hl
    by_cases hx : f = x
    · subst hx
      simp at hl
      subst hl
      rcases hv with hv | ⟨_, q', pd, as, e1, e2, e3, e4, e5⟩
      · exact absurd rfl hv.1
      · exact ⟨q', pd, as, by simp [getL, hk, Value.isStr, e1], e2, e1 ▸ e3, e4, e5⟩
    · have hx' : (f == x) = false := by simpa using hx
      rw [hx'] at hl
      obtain ⟨h0, pd, as, h1, h2⟩ := FldO.get r hl
      refine ⟨h0, pd, as, ?_, h2⟩
      have hne : e.key.isStr f = false := by rw [hk]; show (x == f) = false; simpa using Ne.symm hx
      unfold getL at h1 ⊢
      rw [List.find?_cons_of_neg (by rw [hne]; decide)]
      cases q : es.find? (·.key.isStr f) with
      | some e' => rw [q] at h1; exact h1
      | none => rw [q] at h1; simp only at h1; split at h1 <;> cases h1
theorem FldO.keep {pd : Addr} (hg : own gN = some pd) (hb : Heap.SameBut pd h h') (hnt : NotTup h pd) : ∀ {es : List DictEntry} {fs : List (Str × PyData)}, FldO T d₀ env own h (some f) es fs → f ∉ fs.map (·.1) → FldO T d₀ env own h' (some f) es fs
  | [], [], _, _ => trivial
  | e :: es, (x, d') :: fs, ⟨h1, hv, r⟩, hn => by
    simp only [List.map_cons, List.mem_cons, not_or] at hn
    refine ⟨h1, ?_, FldO.keep hg hb hnt r hn.2⟩
    rcases hv with hv | hv
    · exact .inl ⟨hv.1, Rep.chg (N := T.N) hv.2 (ChgH.of_but hb) (fun z hz => hz ▸ hnt) fun b hb' q => hb'.2.2.2 gN (by rw [show b = pd from q]; exact hg)⟩
    · exact absurd (Option.some.inj hv.1) hn.1
theorem FldO.upd {pd : Addr} {d' : PyData} (hg : own gN = some pd) (hb : Heap.SameBut pd h h') (hnt : NotTup h pd) (hrep : ∃ as, Reads h' (.ref pd) d' (pd :: as) ∧ (∀ b ∈ as, regOf d₀ env own .c b) ∧ Dok T.w h' (pd :: as)) :
    ∀ {es : List DictEntry} {fs fs' : List (Str × PyData)}, FldO T d₀ env own h (some f) es fs → (fs.map (·.1)).Nodup → FSet f d' fs fs' → FldO T d₀ env own h' (some f) es fs'
  | [], [], _, _, _, hs => nomatch hs
  | e :: es, (x, d) :: fs, _, ⟨h1, hv, r⟩, hn, .there hx hs => by
    simp only [List.map_cons, List.nodup_cons] at hn
    refine ⟨h1, ?_, FldO.upd hg hb hnt hrep r hn.2 hs⟩
    rcases hv with hv | hv
    · exact .inl ⟨hv.1, Rep.chg (N := T.N) hv.2 (ChgH.of_but hb) (fun z hz => hz ▸ hnt) fun b hb' q => hb'.2.2.2 gN (by rw [show b = pd from q]; exact hg)⟩
    · exact absurd (Option.some.inj hv.1).symm hx
  | e :: es, (_, d) :: fs, _, ⟨h1, hv, r⟩, hn, .here => by
    simp only [List.map_cons, List.nodup_cons] at hn
    refine ⟨h1, ?_, FldO.keep hg hb hnt r hn.1⟩
    rcases hv with hv | ⟨_, q', pd', as, e1, e2, _⟩
    · exact absurd rfl hv.1
    · rw [hg] at e2; cases e2
      obtain ⟨as', r1, r2, r3⟩ := hrep
      exact .inr ⟨rfl, q', pd, as', e1, hg, e1 ▸ r1, r2, r3⟩
theorem SI.drop {s₀ s : Shared} {x : Str} (S : SI T s₀ d₀ env own Γ s) (hp : Put Γ x none Γ') : SI T s₀ d₀ env own Γ' s := by
  obtain ⟨m, cm, F, hn⟩ := S.frm
  refine ⟨S.eok, S.cok, by rw [hp.names]; exact S.ok, S.wd0, S.d0, S.ownNew, S.ownInj, m, cm, F, fun y v fl hm' => ?_⟩
  rcases hp.cases S.ok.nodup y _ hm' with ⟨rfl, e⟩ | ⟨_, hm''⟩
  · cases e
  · exact hn y v fl hm''
theorem Ex.drop {x : Str} {ss : List Stmt} (hp : Put Γ x none Γ') (h : Ex T n env Γ' ss Q) : Ex T n env Γ ss Q := ⟨fun {A s₀ d₀ own s E QQ} hA S hq hx => h.run hA (S.drop hp) hq hx⟩
theorem Ex1.setSelf {x : Str} {p₀ p₁ p₂ p₃ : Pos} {e ke : PySem.Expr} {k : List Nat} {d : PyData} {fk : Fl} {a : Addr} {fs fs' : List (Str × PyData)} (c : ClsOk T C) (hm : (x, some (.i C fs, .s (a, some f))) ∈ Γ) (hf : fs.lookup f = some (dictD m)) (hfn : (fs.map (·.1)).Nodup) (hfs : FSet f (dictD (m ++ [(k, d)])) fs fs')
    (ha : findIn T.K (.ref C) f = some none) (hone : ∀ y v z, (y, some (v, .s z)) ∈ Γ → y = x) (he : Ev T n env Γ e (.d d) .c) (hk : Ev T n env Γ ke (.d (.str (mkS k))) fk) (hn : (m.map (·.1)).Nodup) (hl : m.lookup k = none) (hz : m.length ≤ sizeLine)
    (hp : Put Γ x (some (.i C fs', .s (a, some f))) Γ') (hs : swapsWith e (some (.Subscript (.Attribute (.Name x p₀) f p₁) ke p₂)) p₃.line env = pure false) (hq : Q .next Γ') : Ex1 T n env Γ (.Assign [.Subscript (.Attribute (.Name x p₀) f p₁) ke p₂] e p₃) Q := ⟨fun {A s₀ d₀ own s E QQ} hA S h hx => by
  refine wpAny_Assign_Subscript (he.run hA S.rd fun val s₁ k₁ r₁ => ?_) hs
  have S₁ := S.kp k₁
  obtain ⟨m₁, cm₁, F₁, hn₁⟩ := S₁.frm
  obtain ⟨vx, l, C', fs1, dx, es, kk, e1, e2, e3, e4, e5, e6, e7⟩ := hn₁ x _ _ hm
  cases e1
  subst e2
  have hdb := S.ok.nodebug x (List.mem_map_of_mem (f := fun p : Str × Slot => p.1) hm)
  obtain ⟨hgk, pd, as, g1, g2, g3, g4, g5⟩ := e7.get hf
  refine Attribute_name (ld_name S.eok.kind (l.is F₁) hdb (get_value S₁.wd.frag (inst_at e5 e6) c.ga (findObj_own c.dict ha rfl (by rw [lookIn_dict]; exact g1)) rfl ?_))
  have k₁' : Kp T.N s₁ { s₁ with toks := s₁.toks + 1 } := .tok _ _
  refine hk.run hA (S₁.kp k₁').rd fun kv s₂ k₂ r₂ => ?_
  obtain ⟨t, rfl⟩ := Rep.str_inv r₂
  have k₂' := k₁'.trans k₂
  have S₂ := S₁.kp k₂'
  refine dict_store (R := regOf d₀ env own .c) (reads_kp k₂'.h g3) (g5.keeps k₂'.h) g4 (Rep.keeps r₁ k₂'.h) (fun b hb q => hb.2.2.2 gN (q ▸ g2)) hn hl hz fun h' o' hb ho' hok hrep => ?_
  have S₃ := S₂.kp (.tok s₂ (s₂.toks + 1))
  have hnt : NotTup s₂.heap pd := May.notTup S₂ pd (.inr (.inr ⟨gN, g2⟩))
  obtain ⟨S₄, p₄⟩ := S₃.mutateG (x := x) (g := gN) (a := pd) (h' := h') hm g2 (.inr ⟨hgk, hone⟩) hp hb ho' hok (fun v' r' => by
    obtain ⟨C'', fs'', dx', es', k', f1, f2, f3, f4, f5, f6, f7⟩ := r'
    cases f1
    have hdp : dx' ≠ pd := fun q => by
      have := S₂.ownInj x gN pd (q ▸ f3) g2
      rw [← this] at hgk
      rcases l with ⟨kd, _⟩ | ⟨kd, _⟩ <;> rw [hgk] at kd <;> cases kd
    refine ⟨C, fs', dx', es', k', rfl, f2, f3, f4, (hb.2 a fun q => f4.2.2.2 gN (q ▸ g2)).trans f5, (hb.2 dx' hdp).trans f6, ?_⟩
    exact FldO.upd g2 hb hnt hrep f7 hfn hfs)
  exact h _ .next _ Γ' own S₄ ((Pres.of_kp ((k₁.trans k₂').trans (.tok _ _))).trans (.refl _ _) p₄) (.refl _ _) trivial hq⟩
end
end Mine
end
section
open PySem PySem.Calls PyProof.Rows PySem.W
set_option linter.all false
set_option maxRecDepth 100000
namespace Mine
section
variable {T : St} {n : Nat} {m : List (List Nat × PyData)} {fl : Fl}
theorem readsAll_keys {h : Heap} : ∀ {vs : List Value} {m : List (List Nat × PyData)}, vs.length = m.length → (∀ (i : Nat) (v : Value), vs[i]? = some v → ∃ p t, m[i]? = some p ∧ v = Value.str (mkS p.1) t) → ReadsAll h vs (m.map fun p => .str (mkS p.1)) []
  | [], [], _, _ => .nil
  | [], _ :: _, h, _ => by simp at h
  | _ :: _, [], h, _ => by simp at h
  | v :: vs, p :: m, h, hv => by
    obtain ⟨p', t, e1, rfl⟩ := hv 0 v rfl
    cases e1
    exact ReadsAll.cons (as := []) (bs := []) (.str _ _) (readsAll_keys (by simpa using h) fun i v hi => by simpa using hv (i + 1) v (by simpa using hi))
theorem CallB.listD (hn : (m.map (·.1)).Nodup) (hz : m.length ≤ sizeLine) : CallB T n (.type "list") [(.d (dictD m), fl)] (.list (PL (m.map (·.1)))) := ⟨fun {A reg s E Q vals} hA R W r h => by
  cases r with
  | cons r1 r2 =>
    cases r2
    obtain ⟨a, vs, rfl, _, hsm, ⟨ep, hd⟩, hall⟩ := Rep.dict_inv (prog := T.prog) r1 hn
    have hlv : vs.length = m.length := by rw [hall.length, List.length_map]
    have hlen : ((m.map fun p => mkS p.1).zip vs).length = m.length := by simp [hlv]
    refine kdl_call (kdl_dict (knd := strKind T.prog T.w) (kvs := (m.map fun p => mkS p.1).zip vs) (ep := ep) (by simpa using hsm)) hA.handled hd (by rw [hlen]; exact hz) fun h' tk acc' c' hk hD hacc => ?_
    rw [show PL (m.map (·.1)) = m.map fun p => .str (mkS p.1) by rw [PL, List.map_map]; rfl] at h
    have hitems : RepAll T.w (reg .c) s.heap acc'.toList (m.map fun p => .str (mkS p.1)) := by
      refine ⟨[], readsAll_keys (by rw [Array.length_toList, hacc.1, hlen]) fun i v hi => ?_, fun _ h => (nomatch h), fun _ h => (nomatch h)⟩
      obtain ⟨k, x, hkx, hkv⟩ := hacc.2 i v (by rw [← Array.getElem?_toList]; exact hi)
      obtain ⟨t, rfl⟩ := Value.isStrOf_shape hkv
      have h1 := (List.getElem?_zip_eq_some.mp hkx).1
      rw [List.getElem?_map] at h1
      obtain ⟨p, q1, q2⟩ := Option.map_eq_some_iff.mp h1
      exact ⟨p, t, q1, by rw [show mkS p.1 = k from q2]⟩
    exact h _ _ (.of ⟨h', tk, rfl, hk⟩) (repF_list (N := T.N) (fun b hb => R.fresh .c b hb) (Heap.get?_none_of_le (Nat.le_refl _)) (by simpa using hD) rfl rfl rfl hitems (.of hk))⟩
end
section
variable {prog : Program} {w : World} {K : Type} [DecidableEq K] {knd : KeyKind prog w K} {A : Around} {E : Value → Shared → Prop} {s : Shared}
theorem nextOf_dict_item {it d : Addr} {i ep : Nat} {kvs : List (K × Value)} {k : K} {v : Value} {Q : Value → Shared → Prop} (hit : s.heap.IsKeyIter it d i kvs.length ep)
    (hm : s.heap.DictAt knd d kvs ep) (hx : kvs[i]? = some (k, v))
    (hQ : ∀ key h', knd.is k key = true → h'.IsKeyIter it d (i + 1) kvs.length ep → Heap.SameBut it s.heap h' → Q key { s with heap := h' }) :
    wpAny (model prog w) A (Builtin.SmallTypes.nextOf (.ref it)) Q E s := by
  obtain ⟨o, ho, hc, hd⟩ := id hit
  obtain ⟨od, es, hod, hcd, hdd, hk, hp, hn⟩ := id hm
  unfold Builtin.SmallTypes.nextOf
  refine wpAny_bind (wpAny_callSpecial?_slot (name := Str.ofString "__next__") hit.typeIs PySem.F.slot_dict_keyiterator_next
    (wpAny_call_entry PySem.F.slot_dict_keyiterator_next hit.typeIs PySem.F.entry_dict_keyiterator_next ?_ (PySem.F.args_dict_keyiterator_next_1 _)))
  refine wpAny_bind (wpAny_pure ?_)
  refine wpAny_bind ?_
  refine wpAny_bind ?_
  first | refine wpAny_bind (wpAny_typeNameOfWhole_keyiter hit.typeIs (wpAny_pure ?_)) | refine wpAny_bind (wpAny_typeNameOf_keyiter hit.typeIs (wpAny_pure ?_))
  refine wpAny_bind (wpAny_fieldsOf ho hd ?_)
  have hown : Builtin.Dict_items.ownsTuple "dict_keyiterator" = false := by decide
  simp only [hown, Bool.false_eq_true, if_false]
  show wpAny _ _ (if (Value.ref d == Value.none) = true then _ else _) _ _ s
  rw [if_neg (show ¬ ((Value.ref d == Value.none) = true) from Bool.false_ne_true)]
  refine wpAny_bind (wpAny_pure ?_)
  refine wpAny_bind (wpAny_dictEntries hod hdd ?_)
  have hsz : es.size = kvs.length := by rw [← hp.length]; simp
  rw [if_neg (by rw [hsz]; simp)]
  refine wpAny_bind (wpAny_pure ?_)
  refine wpAny_bind (wpAny_dictEpoch hod hdd ?_)
  rw [if_neg (by simp)]
  refine wpAny_pure ?_
  have hlt : i < kvs.length := by
    rcases Nat.lt_or_ge i kvs.length with h | h
    · exact h
    · simp [List.getElem?_eq_none h] at hx
  have hlt' : i < es.size := by rw [hsz]; exact hlt
  have hkey : knd.is k es[i].key = true := (hp.get? (e := es[i]) (by simp [hlt']) hx).1
  simp only [show ¬ ((i : Int) < 0) from by omega, if_false, Int.toNat_natCast, Array.getElem?_eq_getElem hlt']
  refine wpAny_bind ?_
  first | refine wpAny_bind (wpAny_typeNameOfWhole_keyiter hit.typeIs (wpAny_pure ?_)) | refine wpAny_bind (wpAny_typeNameOf_keyiter hit.typeIs (wpAny_pure ?_))
  refine wpAny_bind (wpAny_isOneOf_keyiter hit.typeIs ?_)
  show wpAny _ _ (setField (.ref it) 1 (rawInt ((i : Int) + 1)) >>= _) _ _ s
  refine wpAny_bind (wpAny_setField ho hd (by simp) ?_)
  have hit' : (s.heap.update it (Obj.mapFields (·.setIfInBounds 1 (rawInt ((i : Int) + 1))))).IsKeyIter it d (i + 1) kvs.length ep :=
    ⟨_, Heap.get?_update_self _ ho (Obj.isFreed_of_fields (Obj.data_mapFields hd _)), (Obj.cls_mapFields ..).trans hc, by rw [Obj.data_mapFields hd]; simp [rawInt]⟩
  refine wpAny_bind (wpAny_holding ?_)
  refine wpAny_bind (wpAny_isOneOf_keyiter (s := { s with heap := s.heap.update it (Obj.mapFields (·.setIfInBounds 1 (rawInt ((i : Int) + 1)))) }) hit'.typeIs ?_)
  show wpAny _ _ (pure es[i].key) _ _ _
  exact wpAny_pure (wpAny_pure ⟨_, rfl, wpAny_pure (hQ _ _ hkey hit' (Heap.SameBut.update ..))⟩)
theorem nextOf_dict_end {it d : Addr} {i ep : Nat} {kvs : List (K × Value)} {Q : Value → Shared → Prop} (hh : A.handled = none) (hit : s.heap.IsKeyIter it d i kvs.length ep)
    (hm : s.heap.DictAt knd d kvs ep) (hx : kvs[i]? = none)
    (hE : ∀ h' e, Heap.ExtBut it s.heap h' → (∃ o, h'.get? e = some o ∧ o.cls = .type "StopIteration") → E (.ref e) { s with heap := h' }) : wpAny (model prog w) A (Builtin.SmallTypes.nextOf (.ref it)) Q E s := by
  obtain ⟨o, ho, hc, hd⟩ := id hit
  obtain ⟨od, es, hod, hcd, hdd, hk, hp, hn⟩ := id hm
  unfold Builtin.SmallTypes.nextOf
  refine wpAny_bind (wpAny_callSpecial?_slot (name := Str.ofString "__next__") hit.typeIs PySem.F.slot_dict_keyiterator_next
    (wpAny_call_entry PySem.F.slot_dict_keyiterator_next hit.typeIs PySem.F.entry_dict_keyiterator_next ?_ (PySem.F.args_dict_keyiterator_next_1 _)))
  refine wpAny_bind (wpAny_pure ?_)
  refine wpAny_bind ?_
  refine wpAny_bind ?_
  first | refine wpAny_bind (wpAny_typeNameOfWhole_keyiter hit.typeIs (wpAny_pure ?_)) | refine wpAny_bind (wpAny_typeNameOf_keyiter hit.typeIs (wpAny_pure ?_))
  refine wpAny_bind (wpAny_fieldsOf ho hd ?_)
  have hown : Builtin.Dict_items.ownsTuple "dict_keyiterator" = false := by decide
  simp only [hown, Bool.false_eq_true, if_false]
  show wpAny _ _ (if (Value.ref d == Value.none) = true then _ else _) _ _ s
  rw [if_neg (show ¬ ((Value.ref d == Value.none) = true) from Bool.false_ne_true)]
  refine wpAny_bind (wpAny_pure ?_)
  refine wpAny_bind (wpAny_dictEntries hod hdd ?_)
  have hsz : es.size = kvs.length := by rw [← hp.length]; simp
  rw [if_neg (by rw [hsz]; simp)]
  refine wpAny_bind (wpAny_pure ?_)
  refine wpAny_bind (wpAny_dictEpoch hod hdd ?_)
  rw [if_neg (by simp)]
  refine wpAny_pure ?_
  have hge : es.size ≤ i := by rw [hsz]; simpa using hx
  simp only [show ¬ ((i : Int) < 0) from by omega, if_false, Int.toNat_natCast, Array.getElem?_eq_none hge]
  refine wpAny_bind ?_
  first | refine wpAny_bind (wpAny_typeNameOfWhole_keyiter hit.typeIs (wpAny_pure ?_)) | refine wpAny_bind (wpAny_typeNameOf_keyiter hit.typeIs (wpAny_pure ?_))
  show wpAny _ _ (setField (.ref it) 0 .none >>= _) _ _ s
  refine wpAny_bind (wpAny_setField ho hd (by simp) ?_)
  show wpAny _ _ (newExc (.type "StopIteration") [] >>= _) _ _ _
  refine wpAny_bind ?_
  simp only [newExc, newTuple]
  refine wpAny_bind (wpAny_newObj_type ?_ (by size_fits))
  refine wpAny_bind (m := firstArgMember _ _) (wpAny_of_eq (a := Value.none) (by first | rfl | (simp only [firstArgMember]; rfl)) ?_)
  refine wpAny_newObj_type ?_ (by size_fits)
  simp only [raiseNew]
  refine wpAny_bind (wpAny_handled ?_)
  first | rw [show A.in1.handled = none from hh] | rw [hh]
  refine wpAny_bind (wpAny_pure (wpAny_throw ?_))
  exact hE _ _ (((Heap.SameBut.update ..).extBut.push _).push _) ⟨_, Heap.get?_push_size _ rfl, rfl⟩
theorem draws_keys (hh : A.handled = none) (I d : Addr) (hne : d ≠ I) (kvs : List (K × Value)) (ep : Nat) :
    Draws prog w A I [I, d] kvs.length (fun i v => ∃ k x, kvs[i]? = some (k, x) ∧ knd.is k v = true) (fun i h => h.IsKeyIter I d i kvs.length ep ∧ h.DictAt knd d kvs ep) where
  live := fun _ _ st => let ⟨o, ho, _⟩ := st.1; ⟨o, ho⟩
  frame := fun _ _ _ st hk => ⟨st.1.at fun o e => hk I (by simp) o e, st.2.at' fun o e => hk d (by simp) o e⟩
  item := fun i s Q E hi st hQ => by
    obtain ⟨⟨k, x⟩, hx⟩ : ∃ p, kvs[i]? = some p := ⟨kvs[i], by simp [hi]⟩
    refine nextOf_dict_item st.1 st.2 hx fun key h' hkey hit' hs' => ?_
    exact hQ key h' s.toks ⟨k, x, hx, hkey⟩ ⟨hit', st.2.extBut hs'.extBut hne⟩ hs'
  done := fun s Q E st hE => nextOf_dict_end hh st.1 st.2 (by simp) hE
end
section
variable {prog : Program} {w : World} {A : Around} {E : Value → Shared → Prop} {s : Shared}
theorem pyIter_dict_raw {d : Addr} {es : Array DictEntry} {ep : Nat} {dd : Option Addr} {sl : Array (Option Value)} {Q : Value → Shared → Prop} (hd : (d == sysModules) = false) (ho : s.heap.get? d = some { cls := .type "dict", dict := dd, data := .dict es ep, slots := sl })
    (hQ : Q (.ref s.heap.objs.size) { s with heap := s.heap.push { cls := .type "dict_keyiterator", data := .fields #[.ref d, .int 0 0, .int es.size 0, .int ep 0] } }) :
    wpAny (model prog w) A (pyIter (.ref d)) Q E s := by
  have hT : s.TypeIs (.ref d) "dict" := ⟨_, ho, rfl⟩
  refine wpAny_pyIter_slot hT PySem.F.slot_dict_iter (wpAny_call_entry PySem.F.slot_dict_iter hT PySem.F.entry_dict_iter ?_ (PySem.F.args_dict_iter_1 _))
  unfold Builtin.«dict.__iter__»
  refine wpAny_bind ?_
  unfold Builtin.Dict.dictSlotNone
  refine wpAny_bind (wpAny_notOrdered_dict hT ?_)
  show wpAny _ _ (pure (Value.ref d)) _ _ s
  refine wpAny_pure ?_
  show wpAny _ _ (Builtin.Dict.showsAll d >>= _) _ _ s
  unfold Builtin.Dict.showsAll
  rw [if_neg (by rw [hd]; exact Bool.false_ne_true)]
  refine wpAny_bind (wpAny_pure ?_)
  refine wpAny_bind (wpAny_dictEntries ho rfl ?_)
  refine wpAny_bind (wpAny_dictEpoch ho rfl ?_)
  refine wpAny_bind (wpAny_newObj_type (wpAny_pure ⟨_, rfl, "dict_keyiterator", _, ⟨_, Heap.get?_push_size _ rfl, rfl⟩, PySem.F.slot_dict_keyiterator_next.lookup, ?_⟩))
  simpa [rawInt] using hQ
end
theorem meets_enumerate_newD (d : Addr) (es : Array DictEntry) (ep : Nat) (dct : Option Addr) (sl : Array (Option Value)) (hd : (d == sysModules) = false) :
    Meets (Builtin.«enumerate.__new__» ⟨[.type "enumerate", .ref d], []⟩) (fun _ R s => s.heap.get? d = some { cls := .type "dict", dict := dct, data := .dict es ep, slots := sl } ∧
      R (.ok (.ret (.ref (s.heap.push { cls := .type "dict_keyiterator", data := .fields #[.ref d, .int 0 0, .int es.size 0, .int ep 0] }).objs.size)))
        { s with heap := (s.heap.push { cls := .type "dict_keyiterator", data := .fields #[.ref d, .int 0 0, .int es.size 0, .int ep 0] }).push { cls := .type "enumerate", data := .fields #[.none, .bool false, .ref s.heap.objs.size, rawInt 0, .none, .none] } }) :=
  .of_wp fun prog w A R s h => by
    obtain ⟨hp, g, d', tk, os⟩ := s; obtain ⟨hl, h⟩ := h
    have hsub := sub_enumerate
    wp_walk using AutoSeq1.wpAny_loadPart' hl
    refine wpAny_stack_any fun st => wpAny_pure ?_
    split
    · rename_i c _ _ _ _ _
      cases (c == Value.type "enumerate")
      · wp_walk using AutoSeq1.wpAny_loadPart' hl, pyIter_dict_raw hd hl
        exact ⟨_, rfl, h⟩
      · wp_walk using AutoSeq1.wpAny_loadPart' hl, pyIter_dict_raw hd hl
        exact ⟨_, rfl, h⟩
    · wp_walk using AutoSeq1.wpAny_loadPart' hl, pyIter_dict_raw hd hl
      exact ⟨_, rfl, h⟩
section
variable {prog : Program} {w : World} {K : Type} [DecidableEq K] {knd : KeyKind prog w K} {A : Around} {E : Value → Shared → Prop} {s : Shared}
theorem call_enum_dict {d : Addr} {kvs : List (K × Value)} {ep : Nat} (hd : (d == sysModules) = false) (hm : s.heap.DictAt knd d kvs ep) {Q : Value → Shared → Prop}
    (h : ∀ h', IsEnum h' (s.heap.objs.size + 1) s.heap.objs.size 0 .none → h'.IsKeyIter s.heap.objs.size d 0 kvs.length ep → (∀ b o, s.heap.get? b = some o → h'.get? b = some o) → Q (.ref (s.heap.objs.size + 1)) { s with heap := h' }) :
    wpAny (model prog w) A (call (.type "enumerate") [.ref d]) Q E s := by
  obtain ⟨⟨c, dd, da, sl⟩, es, ho, hx, hdat, hk, hp, hn⟩ := id hm
  obtain ⟨h1, h2, h3⟩ := hx
  simp only at h1 h2 h3 hdat
  subst h1 h2 h3 hdat
  refine callType_new PySem.F.called_enumerate (by decide) (PySem.F.typeCall_enumerate_1 _) (PySem.F.newCall_enumerate_1 _) (fun obj => PySem.F.args_object_init_2 obj _) PySem.F.entry_enumerate_new
    (meets_enumerate_newD d es ep none #[] hd) ⟨ho, ?_⟩
  have hz : (s.heap.push { cls := .type "dict_keyiterator", data := .fields #[.ref d, .int 0 0, .int es.size 0, .int ep 0] }).objs.size = s.heap.objs.size + 1 := Heap.size_push ..
  show _ ∧ _
  rw [hz]
  have he : IsEnum ((s.heap.push { cls := .type "dict_keyiterator", data := .fields #[.ref d, .int 0 0, .int es.size 0, .int ep 0] }).push
      { cls := .type "enumerate", data := .fields #[.none, .bool false, .ref s.heap.objs.size, rawInt 0, .none, .none] }) (s.heap.objs.size + 1) s.heap.objs.size 0 .none := by
    have := Heap.get?_push_size (s.heap.push { cls := .type "dict_keyiterator", data := .fields #[.ref d, .int 0 0, .int es.size 0, .int ep 0] })
      (o := { cls := .type "enumerate", data := .fields #[.none, .bool false, .ref s.heap.objs.size, rawInt 0, .none, .none] }) rfl
    rw [hz] at this; exact this
  have hsz : es.size = kvs.length := by rw [← hp.length]; simp
  refine ⟨⟨_, he, rfl⟩, h _ he ⟨_, Heap.get?_push_of_some _ (Heap.get?_push_size _ rfl), rfl, by rw [hsz]; rfl⟩ fun b o x => Heap.get?_push_of_some _ (Heap.get?_push_of_some _ x)⟩
end
section
variable {T : St} {n : Nat} {env : Env} {Γ Γ' : Gm} {Q Q' : Fw → Gm → Prop} {m : List (List Nat × PyData)} {fl : Fl}
def EnSt (T : St) (a : Addr) (m : List (List Nat × PyData)) (vs : List Value) (ep : Nat) (Ie It : Addr) (i : Nat) (h : Heap) : Prop :=
  (∃ old, IsEnum h Ie It (i : Int) old) ∧ h.IsKeyIter It a i m.length ep ∧ h.DictAt (strKind T.prog T.w) a ((m.map fun p => mkS p.1).zip vs) ep
theorem Ex1.forE {k x : Str} {pk px pt p pn pc : Pos} {x1 : Nat} {e : PySem.Expr} {body : List Stmt} (hx : env.kindOf "enumerate" = some .globalImplicit) (hg : T.mg "enumerate" = none) (hb : T.mb "enumerate" = some (.type "enumerate")) (he : Ev T n env Γ e (.d (dictD m)) fl) (hn : (m.map (·.1)).Nodup) (hfl : fl ≠ .o ∧ ∀ x, fl ≠ .s x)
    (hse : starEach [e] env = [(false, eval e env)]) (hkk : env.kindOf k = some .local ∨ env.kindOf k = some .cell) (hkx : env.kindOf x = some .local ∨ env.kindOf x = some .cell) (I : Nat → Gm → Prop) (h0 : I 0 Γ)
    (hturn : ∀ i q Γ₁, m[i]? = some q → I i Γ₁ → ∃ Γ₂ Γ₃, Put Γ₁ k (some (.d (.int (i : Int)), .c)) Γ₂ ∧ Put Γ₂ x (some (.d (.str (mkS q.1)), .c)) Γ₃ ∧ Ex T n env Γ₃ body (TurnF I i Q))
    (hend : ∀ Γ₁, I m.length Γ₁ → Q .next Γ₁) : Ex1 T n env Γ (.For (.Tuple [.Name k pk, .Name x px] x1 pt) (.Call (.Name "enumerate" pn) [e] [] pc) body [] p) Q := ⟨fun {A s₀ d₀ own s E QQ} hA S h hxx => by
  refine wpAny_For ?_ (fun x => rfl)
  refine wpAny_Call_NameR (ld_builtin S.rd hx (by decide +kernel) hg hb ?_)
  have hb1 : backTo pc (starEach [e] env) = [(false, eval e env)] := by rw [hse]; rfl
  rw [hb1]
  refine PyProof.Rows.callWith_type rfl (evalArgs_plain (spliced_cons (he.run hA S.rd fun val s₁ k₁ r₁ => spliced_nil ?_)))
  obtain ⟨a, vs, rfl, hR, hsm, ⟨ep, hd⟩, hall⟩ := Rep.dict_inv (prog := T.prog) r₁ hn
  have hlv : vs.length = m.length := by rw [hall.length, List.length_map]
  have hlen : ((m.map fun p => mkS p.1).zip vs).length = m.length := by simp [hlv]
  refine call_enum_dict (knd := strKind T.prog T.w) (by simpa using hsm) hd fun h₂ hE hit hkeep => ?_
  refine wpAny_pyIter_enum hE ?_
  have alt : a < s₁.heap.objs.size := by obtain ⟨_, _, e, _⟩ := hd; exact Heap.lt_size e
  have W := WalksT.enumerateD (draws_keys (knd := strKind T.prog T.w) (A := A.in1) hA.handled s₁.heap.objs.size a (Nat.ne_of_lt alt) ((m.map fun p => mkS p.1).zip vs) ep) (s₁.heap.objs.size + 1) (Nat.succ_ne_self _) (fun hm => by
    rcases List.mem_cons.mp hm with e | hm
    · exact Nat.succ_ne_self _ e
    · have := List.mem_singleton.mp hm
      rw [← this] at alt
      exact absurd alt (Nat.not_lt.mpr (Nat.le_succ _))) (by simp)
  rw [hlen] at W hit
  generalize hs₂ : ({ s₁ with heap := h₂ } : Shared) = s₂
  have k₂ : Kp T.N s s₂ := hs₂ ▸ k₁.trans ⟨h₂, s₁.toks, rfl, .of hkeep⟩
  have hst : (∃ old, IsEnum s₂.heap (s₁.heap.objs.size + 1) s₁.heap.objs.size ((0 : Nat) : Int) old) ∧ s₂.heap.IsKeyIter s₁.heap.objs.size a 0 m.length ep ∧ s₂.heap.DictAt (strKind T.prog T.w) a ((m.map fun p => mkS p.1).zip vs) ep := by
    subst hs₂
    exact ⟨⟨_, hE⟩, hit, hd.at' fun o e => hkeep a o e⟩
  generalize hIe : s₁.heap.objs.size + 1 = Ie at W hst
  generalize hIt : s₁.heap.objs.size = It at W hst hIe
  have hwr : ∀ b ∈ [Ie, It], s.heap.get? b = none := fun b hb => by
    have h1 : s₁.heap.get? b = none := by
      simp only [List.mem_cons, List.not_mem_nil, or_false] at hb
      rcases hb with rfl | rfl
      · exact Heap.get?_none_of_le (by omega)
      · exact Heap.get?_none_of_le (by omega)
    exact k₁.h.none h1
  have hrec : ∀ {h : Heap} {i : Nat}, (EnSt T a m vs ep Ie It i h) → (∀ b ∈ [Ie, It], IsRec h b) ∧ (∀ b ∈ [Ie, It, a], ∃ o, h.get? b = some o ∧ o.cls ≠ .type "frame") := fun {h i} st => by
    obtain ⟨⟨old, q1⟩, ⟨o2, q2, q3, q4⟩, q5⟩ := st
    refine ⟨fun b hb => ?_, fun b hb => ?_⟩
    · simp only [List.mem_cons, List.not_mem_nil, or_false] at hb
      rcases hb with rfl | rfl
      · exact ⟨_, _, q1, rfl⟩
      · exact ⟨_, _, q2, q4⟩
    · simp only [List.mem_cons, List.not_mem_nil, or_false] at hb
      rcases hb with rfl | rfl | rfl
      · exact ⟨_, q1, by simp⟩
      · exact ⟨_, q2, by rw [q3]; simp⟩
      · obtain ⟨o, _, ho, hc, _⟩ := q5; exact ⟨o, ho, by rw [hc.1]; simp⟩
  have hS0 := S
  obtain ⟨m0, cm0, F0, _⟩ := hS0.frm
  have hwr0 : ∀ b ∈ [Ie, It], s₀.heap.get? b = none := fun b hb => F0.keep.none (hwr b hb)
  have wrNotMay : ∀ b ∈ [Ie, It], ¬ May env own b := fun b hb hm => by
    rcases hm with q | ⟨y, q⟩ | ⟨y, q⟩
    · obtain ⟨o, _, _, ho, _⟩ := F0.ns; rw [← q, hwr b hb] at ho; cases ho
    · obtain ⟨o, ho, _⟩ := F0.cell y b q; rw [hwr b hb] at ho; cases ho
    · obtain ⟨_, _, _, o, ho, _⟩ := S.ownNew y b q; rw [hwr b hb] at ho; cases ho
  have aNotMay : ¬ May env own a := by
    cases fl with
    | o => exact absurd rfl hfl.1
    | s x => exact absurd rfl (hfl.2 x)
    | b => exact regOf_not_may hR
    | c => exact regOf_not_may (regOf_cb hR)
  have S₂ := S.kp k₂
  refine codeAny_forLoop_any (fun k s' => ∃ i Γ₁ own₁, k = m.length + 1 - i ∧ i ≤ m.length ∧ SI T s₀ d₀ env own₁ Γ₁ s' ∧ (EnSt T a m vs ep Ie It i s'.heap) ∧ Pres T.N env own s s' ∧ OwnLe own own₁ s ∧ OwnLe own own₁ s₂ ∧ (∀ b, s'.heap.get? b = none → s₂.heap.get? b = none) ∧ I i Γ₁)
    (fun k s' hI => ?_) (m.length + 1) ⟨0, Γ, own, by omega, Nat.zero_le _, S₂, hst, .of_kp k₂, .refl _ _, .refl _ _, fun _ e => e, h0⟩
  obtain ⟨i, Γ₁, own₁, rfl, hile, S₁, hst₁, p₁', o₁, o₁', alive₁, hInv⟩ := hI
  have fpFix : ∀ (own₂ : Own), (∀ y a, own₂ y = some a → own₁ y = some a) → ∀ b ∈ [Ie, It, a], ¬ May env own₂ b := fun own₂ ho b hb hm => by
    have hb' : ¬ May env own b := by
      simp only [List.mem_cons, List.not_mem_nil, or_false] at hb
      rcases hb with rfl | rfl | rfl
      · exact wrNotMay _ (by simp)
      · exact wrNotMay _ (by simp)
      · exact aNotMay
    rcases hm with q | q | ⟨y, q⟩
    · exact hb' (.inl q)
    · exact hb' (.inr (.inl q))
    · rcases o₁' y b (ho y b q) with ⟨z, hz⟩ | hz
      · exact hb' (.inr (.inr ⟨z, hz⟩))
      · obtain ⟨o, e, _⟩ := (hrec hst).2 b hb
        rw [hz] at e; cases e
  by_cases hlt : i < m.length
  · refine W.item i s' _ _ hlt hst₁ fun Tt vals h' tk hPt hTsz hTup hMid hk' => ?_
    refine W.go _ _ _ i Tt _ _ _ hMid fun h'' hst'' hk'' => ?_
    have hTw := W.apart i Tt h' hMid
    have hTup2 : h''.IsTuple Tt vals := hTup.at fun o e => hk'' Tt o hTw e
    obtain ⟨t, v, ⟨kk, xv, hkx1, hkx2⟩, rfl⟩ := hPt
    refine wpAny_assign_Tuple (s := { s' with heap := h'', toks := tk }) hA.handled hTup2 rfl rfl fun h₃ hx₃ => ?_
    replace hx₃ : Heap.ExtBut h''.objs.size h'' h₃ := hx₃
    have old₃ : ∀ b o, h''.get? b = some o → h₃.get? b = some o := fun b o e => hx₃ b o (Nat.ne_of_lt (Heap.lt_size e)) e
    have hst₃ : EnSt T a m vs ep Ie It (i + 1) h₃ := W.frame (i + 1) h'' h₃ hst'' fun b _ o e => old₃ b o e
    have chgW : ChgH T.N (· ∈ [Ie, It]) s'.heap h₃ := fun b o e hb => ⟨o.slots, old₃ b _ (hk'' b _ hb (hk' b o hb e)), fun _ => rfl⟩
    have aliveW : ∀ b, h₃.get? b = none → s'.heap.get? b = none := fun b e => by
      cases q : s'.heap.get? b with
      | none => rfl
      | some o =>
        by_cases hb : b ∈ [Ie, It]
        · obtain ⟨o', vs, e', _⟩ := (hrec hst₃).1 b hb; rw [e] at e'; cases e'
        · have := old₃ b _ (hk'' b _ hb (hk' b o hb q)); rw [e] at this; cases this
    have S₃ : SI T s₀ d₀ env own₁ Γ₁ { s' with heap := h₃, toks := tk } := S₁.recs ⟨_, _, rfl⟩ (fun b hb => (hrec hst₁).1 b hb) hwr0 chgW
    have p₃ : Pres T.N env own s { s' with heap := h₃, toks := tk } := ⟨by obtain ⟨⟨h1, tk1, rfl⟩, _⟩ := p₁'; exact ⟨_, _, rfl⟩, p₁'.2.1.trans chgW fun b o e hb => absurd e (by rw [hwr b hb]; simp), fun b e => p₁'.2.2 b (aliveW b e)⟩
    obtain ⟨tv, rfl⟩ := Value.isStrOf_shape hkx2
    have hk1 := (List.getElem?_zip_eq_some.mp hkx1).1
    rw [List.getElem?_map] at hk1
    obtain ⟨q, hq, rfl⟩ := Option.map_eq_some_iff.mp hk1
    obtain ⟨Γ₂, Γ₃, hput₂, hput₃, hbody⟩ := hturn i q Γ₁ hq hInv
    show wpAny _ A (do holding [Value.str (mkS q.1) tv] (PySem.assign (.Name k pk) env (.int i t)); do holding [] (PySem.assign (.Name x px) env (.str (mkS q.1) tv)); pure ()) _ _ _
    refine wpAny_bind (wpAny_holding (wpAny_assign_Name (S₃.store (own' := fun y => if y = k then none else own₁ y) (.refl _) hput₂ hkk (fun y hy => by simp [hy]) (fun a e => by simp at e) (fun v' fl'' e => ?_) fun s₄ S₄ p₄ o₄ => ?_)))
    · cases e; exact rep_int ..
    refine wpAny_bind (wpAny_holding (wpAny_assign_Name (S₄.store (own' := fun y => if y = x then none else if y = k then none else own₁ y) (.refl _) hput₃ hkx (fun y hy => by simp [hy]) (fun a e => by simp at e) (fun v' fl'' e => ?_) fun s₅ S₅ p₅ o₅ => wpAny_pure ?_)))
    · cases e; exact rep_str ..
    have hsub : ∀ y b, (if y = x then none else if y = k then none else own₁ y) = some b → own₁ y = some b := fun y b q => by
      by_cases h1 : y = x
      · simp [h1] at q
      · by_cases h2 : y = k
        · simp [h1, h2] at q
        · simpa [h1, h2] using q
    have p₆ := p₄.trans o₄ p₅
    have o₆ := o₄.trans o₅ p₄
    have p₇ := p₃.trans o₁ p₆
    have o₇ := o₁.trans o₆ p₃
    have o₇' : OwnLe own (fun y => if y = x then none else if y = k then none else own₁ y) s₂ := fun y a q => o₁' y a (hsub y a q)
    have hst₅ : EnSt T a m vs ep Ie It (i + 1) s₅.heap := W.frame (i + 1) h₃ s₅.heap hst₃ fun b hb o e => by
      obtain ⟨o', e', hnf⟩ := (hrec hst₃).2 b hb
      rw [e] at e'; cases e'
      exact p₆.2.1.plain e (fpFix own₁ (fun _ _ q => q) b hb) hnf
    have alive₅ : ∀ b, s₅.heap.get? b = none → s₂.heap.get? b = none := fun b e => alive₁ b (aliveW b (p₆.2.2 b e))
    refine hbody.run hA S₅ (fun f f' s₈ Γ₅ own₈ S₈ p₈ o₈ fr q => ?_) fun k e s₅ Γ₅ own₅ S₅ p₆ o₆ er q => er.elim
    have p₉ := p₇.trans o₇ p₈
    have o₉ := o₇.trans o₈ p₇
    have o₉' : OwnLe own own₈ s₂ := fun y a q' => by
      rcases o₈ y a q' with ⟨z, hz⟩ | hz
      · exact o₇' z a hz
      · exact .inr (alive₅ a hz)
    have hst₈ : EnSt T a m vs ep Ie It (i + 1) s₈.heap := W.frame (i + 1) s₅.heap s₈.heap hst₅ fun b hb o e => by
      obtain ⟨o', e', hnf⟩ := (hrec hst₅).2 b hb
      rw [e] at e'; cases e'
      exact p₈.2.1.plain e (fpFix _ hsub b hb) hnf
    have again : I (i + 1) Γ₅ → ∃ k', k' < m.length + 1 - i ∧ ∃ i Γ₁ own₁, k' = m.length + 1 - i ∧ i ≤ m.length ∧ SI T s₀ d₀ env own₁ Γ₁ s₈ ∧ (EnSt T a m vs ep Ie It i s₈.heap) ∧ Pres T.N env own s s₈ ∧ OwnLe own own₁ s ∧ OwnLe own own₁ s₂ ∧ (∀ b, s₈.heap.get? b = none → s₂.heap.get? b = none) ∧ I i Γ₁ := fun hI' =>
      ⟨m.length + 1 - (i + 1), by omega, i + 1, Γ₅, own₈, rfl, hlt, S₈, hst₈, p₉, o₉, o₉', fun b e => alive₅ b (p₈.2.2 b e), hI'⟩
    cases f' with
    | next => cases f <;> first | exact fr.elim | exact again q
    | cont => cases f <;> first | exact fr.elim | exact again q
    | brk => cases f <;> first | exact fr.elim | exact h _ .next s₈ Γ₅ own₈ S₈ p₉ o₉ trivial q
    | ret d => cases f <;> first | exact fr.elim | exact h _ (.ret d) s₈ Γ₅ own₈ S₈ p₉ o₉ fr q
    | exc e => cases f <;> exact fr.elim
  · have hi' : i = m.length := by omega
    subst hi'
    refine W.done s' _ _ hst₁ fun h' tk hk' => ?_
    have chgW : ChgH T.N (· ∈ [Ie, It]) s'.heap h' := fun b o e hb => ⟨o.slots, hk' b o hb e, fun _ => rfl⟩
    have S₃ : SI T s₀ d₀ env own₁ Γ₁ { s' with heap := h', toks := tk } := S₁.recs ⟨_, _, rfl⟩ (fun b hb => (hrec hst₁).1 b hb) hwr0 chgW
    have p₃ : Pres T.N env own s { s' with heap := h', toks := tk } := by
      refine ⟨?_, p₁'.2.1.trans chgW fun b o e hb => absurd e (by rw [hwr b hb]; simp), fun b e => ?_⟩
      · obtain ⟨⟨h1, tk1, rfl⟩, _⟩ := p₁'; exact ⟨_, _, rfl⟩
      · by_cases hb : b ∈ [Ie, It]
        · exact hwr b hb
        · refine p₁'.2.2 b ?_
          cases q : s'.heap.get? b with
          | none => rfl
          | some o => have := hk' b o hb q; rw [show h'.get? b = none from e] at this; cases this
    exact wpAny_execs_nil (h _ .next _ Γ₁ own₁ S₃ p₃ o₁ trivial (hend Γ₁ hInv))⟩
end
end Mine
end
section
open PySem PySem.Calls PyProof.Rows PySem.W
set_option linter.all false
set_option maxRecDepth 100000
namespace Mine
section
variable {T : St} {n : Nat} {env : Env} {Γ Γ' : Gm} {C : Addr} {fs : List (Str × PyData)} {fl : Fl}
end
def OutOk (T : St) (h : Heap) (l : List Env) : Prop := ∀ e ∈ l, e.scope.kind ≠ .module ∧ ∃ L o, e.frame = some L ∧ h.get? L = some o ∧ (∀ vs, o.data ≠ .fields vs) ∧ T.K.lookup L = none
noncomputable def groundO (N : Nat) (env : Env) (l : List Env) (h : Heap) : Heap := hideAll h (l.filterMap (·.frame) ++ hidden N env h)
structure CallsY (T : St) (n : Nat) (f : Addr) (xs : List Vl) (b : Bool) : Prop where
  run : ∀ {A : Around} {s : Shared} {E : Value → Shared → Prop} {Q : Value → Shared → Prop} {vals : List Value} {l : List Env}, Amb n A → A.frames = some l → OutOk T s.heap l → Wd T s.heap → RepAs T.w s.heap vals xs →
    (∀ s', (∃ h tk, s' = { s with heap := h, toks := tk }) → ChgH T.N (· ∈ l.filterMap (·.frame)) s.heap s'.heap → s.heap.UpToSlots s'.heap → Q (.bool b) s') → wpAny T.M A (call (.ref f) vals) Q E s
end Mine
end
section
open PySem PySem.Calls PyProof.Rows PySem.W
set_option linter.all false
set_option maxRecDepth 100000
namespace Mine
section
variable {w : World} {R : Addr → Prop} {A : Around} {s : Shared}
end
section
variable {T : St} {n : Nat} {env : Env} {Γ Γ' : Gm} {Q : Fw → Gm → Prop} {m : List (List Nat × PyData)}
def setM (m : List (List Nat × PyData)) (k : List Nat) (d : PyData) : List (List Nat × PyData) := if (m.lookup k).isSome then m.map fun p => if p.1 = k then (p.1, d) else p else m ++ [(k, d)]
theorem stored_old : ∀ {m : List (List Nat × PyData)} {vs : List Value} {k : List Nat} {d : PyData} {v : Value} {w : World} {R : Addr → Prop} {h : Heap}, RepAll w R h vs (m.map (·.2)) → Rep w R h v d →
    ∃ vs', ((m.map fun p => mkS p.1).zip vs).map (fun kv => if kv.1 = mkS k then (kv.1, v) else kv) = ((m.map fun p => if p.1 = k then (p.1, d) else p).map fun p => mkS p.1).zip vs' ∧ RepAll w R h vs' ((m.map fun p => if p.1 = k then (p.1, d) else p).map (·.2))
  | [], [], _, _, _, _, _, _, r, _ => ⟨[], rfl, r⟩
  | [], _ :: _, _, _, _, _, _, _, ⟨_, r, _⟩, _ => nomatch r
  | _ :: _, [], _, _, _, _, _, _, ⟨_, r, _⟩, _ => nomatch r
  | p :: m, u :: vs, k, d, v, w, R, h, r, hv => by
    obtain ⟨r1, r2⟩ := r.cons_inv
    obtain ⟨vs', e, ra⟩ := stored_old (k := k) r2 hv
    by_cases hp : p.1 = k
    · refine ⟨v :: vs', ?_, ?_⟩
      · simp only [List.map_cons, List.zip_cons_cons, e, if_pos hp, if_pos (congrArg mkS hp)]
      · simp only [List.map_cons, if_pos hp]; exact RepAll.cons hv ra
    · refine ⟨u :: vs', ?_, ?_⟩
      · simp only [List.map_cons, List.zip_cons_cons, e, if_neg hp, if_neg fun q => hp (mkS_inj.mp q)]
      · simp only [List.map_cons, if_neg hp]; exact RepAll.cons r1 ra
theorem dict_storeA {A : Around} {E : Value → Shared → Prop} {QQ : Unit → Shared → Prop} {s : Shared} {R : Addr → Prop} {a : Addr} {as : List Addr} {k : List Nat} {t : Tok} {v : Value} {d : PyData}
    (r : Reads s.heap (.ref a) (dictD m) (a :: as)) (hd : Dok T.w s.heap (a :: as)) (hr : ∀ b ∈ as, R b) (hv : Rep T.w R s.heap v d) (hRa : ∀ b, R b → b ≠ a) (hn : (m.map (·.1)).Nodup) (hz : m.length ≤ sizeLine)
    (h : ∀ h' o', Heap.SameBut a s.heap h' → h'.get? a = some o' → ((o'.dict = none ∧ ∀ vs, o'.data ≠ .fields vs) ∧ o'.cls ≠ .type "tuple" ∧ o'.cls ≠ .type "frame") →
      (∃ as', Reads h' (.ref a) (dictD (setM m k d)) (a :: as') ∧ (∀ b ∈ as', R b) ∧ Dok T.w h' (a :: as')) → QQ () { s with heap := h', toks := s.toks + 1 }) : wpAny T.M A (setItem (.ref a) (.str (mkS k) t) v) QQ E s := by
  by_cases hl : (m.lookup k).isSome = true
  · obtain ⟨hs, vs, hdo, hvs⟩ := dict_parts (prog := T.prog) r hd hn
    have hall : RepAll T.w R s.heap vs (m.map (·.2)) := ⟨as, hvs, hr, fun b hb => hd b (.tail _ hb)⟩
    have hlen : vs.length = m.length := by rw [hall.length, List.length_map]
    refine wpAny_setItem_pairs (knd := strKind T.prog T.w) (k := mkS k) (by show (mkS k == mkS k) = true; simp) hdo (fun h' hd' hb => ?_) (by rw [List.length_zip, List.length_map, hlen, Nat.min_self]; exact hz)
    obtain ⟨vs', e, ra⟩ := stored_old (k := k) hall hv
    have hany : ((m.map fun p => mkS p.1).zip vs).any (fun kv => kv.1 = mkS k) = true := by
      rw [List.any_eq_true]
      obtain ⟨d0, hd0⟩ := Option.isSome_iff_exists.mp hl
      obtain ⟨u, hu, _⟩ := (valueAt_zip (k := k) hall).1 d0 hd0
      unfold valueAt at hu
      obtain ⟨q, hq, _⟩ := Option.map_eq_some_iff.mp hu
      exact ⟨q, List.mem_of_find?_eq_some hq, by have := List.find?_some hq; exact this⟩
    have est : stored ((m.map fun p => mkS p.1).zip vs) (mkS k) v = ((setM m k d).map fun p => mkS p.1).zip vs' := by
      unfold stored setM
      rw [if_pos hany, if_pos hl]; exact e
    rw [est] at hd'
    have chg : ChgH T.N (· = a) s.heap h' := ChgH.of_but hb
    have ntup : ∀ z, z = a → NotTup s.heap z := fun z hz o vs k e hc hdat => by
      obtain ⟨o', _, _, ho, hx, _⟩ := hdo
      rw [hz, ho] at e; cases e
      rw [hx.1] at hc; simp at hc
    obtain ⟨bs, q1, q2, q3⟩ := RepAll.chg ra chg ntup fun b hb q => hRa b hb q
    have q1' : ReadsAll h' vs' ((setM m k d).map (·.2)) bs := by unfold setM; rw [if_pos hl]; exact q1
    obtain ⟨z1, z2, o, z3, z4⟩ := dict_reads hs hd' q1' q3
    exact h h' o hb z3 z4 ⟨bs, z1, q2, z2⟩
  · have hl' : m.lookup k = none := Option.not_isSome_iff_eq_none.mp hl
    refine dict_store r hd hr hv hRa hn hl' hz fun h' o' hb ho' hok hrep => h h' o' hb ho' hok ?_
    unfold setM
    rw [if_neg (by rw [hl']; simp)]; exact hrep
end
end Mine
end
section
open PySem PySem.Calls PyProof.Rows PySem.W
set_option linter.all false
set_option maxRecDepth 100000
namespace Mine
section
variable {T : St} {n : Nat} {env : Env} {Γ Γ' : Gm} {Q : Fw → Gm → Prop}
end
end Mine
end
section
open PySem PySem.Calls PyProof.Rows PySem.W
set_option linter.all false
set_option maxRecDepth 100000
namespace Mine
section
variable {T : St} {n : Nat} {env : Env} {Q : Fw → Gm → Prop} {m : List (List Nat × PyData)}
end
end Mine
end
section
open PySem PySem.Calls PyProof.Rows PySem.W
set_option linter.all false
set_option maxRecDepth 100000
namespace Mine
section
variable {T : St} {n : Nat} {env : Env} {Γ Γ' : Gm} {Q : Fw → Gm → Prop} {m : List (List Nat × PyData)}
theorem Bin.repS {l : List Nat} {b : Bool} {f₁ f₂ : Fl} : Bin T n .Mult (.d (.str (mkS l))) f₁ (.d (.int (if b then 1 else 0))) f₂ (.str (mkS (if b then l else []))) := ⟨fun {A reg s E Q a c} hA R W r₁ r₂ h => by
  obtain ⟨t, rfl⟩ := Rep.str_inv r₁
  obtain ⟨u, rfl⟩ := Rep.int_inv r₂
  cases b with
  | false => exact P.mul_str_none (by decide) (by decide) (h _ _ (.tok _ _) (repF_str ..))
  | true => exact P.mul_str (by decide) (fun _ q => by simp at q) (fun _ q => by simp at q) (by
      rw [if_neg (by decide), if_pos (by simp)]
      exact h _ _ (.refl _) (repF_str ..))⟩
theorem Cmp.inData {a : PyData} {xs : List PyData} (hxs : PyData.canLayAll0 xs = true) (ha : a.canLay0 = true) (hd : a.depth ≤ 40) : Cmp T n .In (.d a) (.d (.list xs)) (xs.any fun y => PyData.eqv y a) := ⟨fun {A R₁ R₂ s E Q x y} hA W r₁ r₂ h => by
  obtain ⟨as, q1, _⟩ := r₁
  obtain ⟨bs, q2, _⟩ := r₂
  exact PySem.SeqAt.in_list_reads q2 q1 hxs ha (by have := hA.units; have : min (PyData.depthAll xs) a.depth ≤ 40 := Nat.le_trans (Nat.min_le_right _ _) hd; omega) (h _ (.refl _))⟩
theorem Ev.getD {o ke de : PySem.Expr} {apos pos : Pos} {fl fk : Fl} {k : List Nat} {dd : PyData} (ho : Ev T n env Γ o (.d (dictD m)) fl) (hk : Ev T n env Γ ke (.d (.str (mkS k))) fk) (hd : Ev T n env Γ de (.d dd) .c) (hn : (m.map (·.1)).Nodup)
    (hs₁ : starEach [ke, de] env = (false, eval ke env) :: starEach [de] env) (hs₂ : starEach [de] env = [(false, eval de env)])
    (hbase : attributeBase o "get" env (eval o env) = eval o env) (hline : (apos.endLine == pos.line) = true) : Ev T n env Γ (.Call (.Attribute o "get" apos) [ke, de] [] pos) (.d ((m.lookup k).getD dd)) fl := ⟨fun {A reg s E Q} hA R h => by
  have ha : EvA T n env Γ [ke, de] [(.d (.str (mkS k)), fk), (.d dd, .c)] := EvA.cons hk (EvA.cons hd EvA.nil (by rw [hs₂]; rfl)) hs₁
  refine wpAny_Call_method_lateS hbase ?_ hline (ho.run hA R fun ov s₁ k₁ r₁ => ?_)
  · have h1 : (backTo pos (starEach [ke, de] env)).all (fun x => !x.1) = true := by
      have := ha.plain pos
      rw [List.any_eq_false] at this
      rw [List.all_eq_true]
      intro x hx
      have := this x hx
      simpa using this
    rw [h1]; rfl
  · obtain ⟨a, vs, rfl, hR, hsm, ⟨ep, hda⟩, hall⟩ := Rep.dict_inv (prog := T.prog) r₁ hn
    refine ⟨"dict", "dict.get", F.plainAttrs_dict, F.slot_dict_get, F.type_dict_get, hda.dictOf.typeIs, hda.dictOf.mapOf.noDict, callWith_machine (.inl ⟨_, rfl⟩) (ha.plain pos) (evalArgs_any (ha.plain pos) (ha.run hA (R.kp k₁) fun vals s₂ k₂ r₂ => ?_))⟩
    obtain ⟨a', vs', ea, _, _, ⟨ep', hda'⟩, hall'⟩ := Rep.dict_inv (prog := T.prog) (RepV.keeps r₁ k₂.h) hn
    cases ea
    cases r₂ with
    | cons q1 q2 =>
      cases q2 with
      | cons q3 q4 =>
        cases q4
        obtain ⟨t, rfl⟩ := Rep.str_inv q1
        refine call_meetsIn F.slot_dict_get hda'.dictOf.typeIs F.entry_dict_get (F.args_dict_get_3 _ _ _) (meets_dict_get_default (strKind T.prog T.w) a (k := mkS k) (by show (mkS k == mkS k) = true; simp) (by simpa using hsm) _) ⟨_, hda'.dictOf.mapOf, ?_⟩
        have hv := valueAt_zip (k := k) hall'
        refine h _ _ ((k₁.trans k₂).trans (.tok _ _)) ?_
        cases e : m.lookup k with
        | none => rw [hv.2 e]; exact RepV.mono q3 (R.regs.up fl)
        | some d =>
          obtain ⟨u, hu, hr⟩ := hv.1 d e
          rw [hu]; exact hr⟩
theorem SI.ghost {s₀ s s₁ : Shared} {d₀ : Addr → Prop} {own : Own} {b : Addr} (S : SI T s₀ d₀ env own Γ s) (k : Kp T.N s s₁) (hb : s.heap.get? b = none) (ho : ∃ o, s₁.heap.get? b = some o ∧ (o.dict = none ∧ ∀ vs, o.data ≠ .fields vs) ∧ o.cls ≠ .type "tuple" ∧ o.cls ≠ .type "frame")
    (hg : env.kindOf gN = none) (hns : ∀ y v z, (y, some (v, .s z)) ∉ Γ) : SI T s₀ d₀ env (fun y => if y = gN then some b else own y) Γ s₁ := by
  have S₁ := S.kp k
  have hfr := S.fresh hb
  obtain ⟨m₀, cm₀, F₀, hn₀⟩ := S.frm
  have hcase : ∀ y a, (if y = gN then some b else own y) = some a → (y = gN ∧ a = b) ∨ (y ≠ gN ∧ own y = some a) := fun y a e => by
    by_cases hy : y = gN
    · rw [if_pos hy] at e; cases e; exact .inl ⟨hy, rfl⟩
    · rw [if_neg hy] at e; exact .inr ⟨hy, e⟩
  have hle : ∀ a, s.heap.get? a ≠ none → (∀ y, own y ≠ some a) → ∀ y, (if y = gN then some b else own y) ≠ some a := fun a ha hy y q => by
    rcases hcase y a q with ⟨_, rfl⟩ | ⟨_, q⟩
    · exact ha hb
    · exact hy y q
  have upC : ∀ a, (regOf d₀ env own .c a ∧ s.heap.get? a ≠ none) → regOf d₀ env (fun y => if y = gN then some b else own y) .c a := fun a r => ⟨r.1.1, r.1.2.1, r.1.2.2.1, hle a r.2 r.1.2.2.2⟩
  have upB : ∀ a, (regOf d₀ env own .b a ∧ s.heap.get? a ≠ none) → regOf d₀ env (fun y => if y = gN then some b else own y) .b a := fun a r => ⟨r.1.1, r.1.2.1, hle a r.2 r.1.2.2⟩
  refine ⟨S.eok, S.cok, S.ok, S.wd0, S.d0, fun y a e => ?_, fun x y a e1 e2 => ?_, m₀, cm₀, F₀.kp k, fun y v fl hm => ?_⟩
  · rcases hcase y a e with ⟨_, rfl⟩ | ⟨_, e⟩
    · exact ⟨F₀.keep.none hb, hfr.2.1, hfr.2.2.1, ho⟩
    · exact S₁.ownNew y a e
  · rcases hcase x a e1 with ⟨rfl, rfl⟩ | ⟨_, e1⟩ <;> rcases hcase y a e2 with ⟨rfl, e3⟩ | ⟨_, e2⟩
    · rfl
    · obtain ⟨_, _, _, o, h4, _⟩ := S.ownNew y a e2; rw [hb] at h4; cases h4
    · obtain ⟨_, _, _, o, h4, _⟩ := S.ownNew x a e1; rw [e3, hb] at h4; cases h4
    · exact S.ownInj x y a e1 e2
  · obtain ⟨val, l, r⟩ := hn₀ y v fl hm
    refine ⟨val, l, ?_⟩
    have hyg : y ≠ gN := by
      rintro rfl
      rcases l with ⟨q, _⟩ | ⟨q, _⟩ <;> rw [hg] at q <;> cases q
    cases fl with
    | c => exact ((RepV.there r).mono upC).keeps k.h
    | b => exact ((RepV.there r).mono upB).keeps k.h
    | o =>
      obtain ⟨d, a, as, e1, e2, e3, e4, e5, e6⟩ := r
      exact ⟨d, a, as, e1, e2, by show (if y = gN then some b else own y) = some a; rw [if_neg hyg]; exact e3, reads_kp k.h e4, fun z hz => upC z ⟨e5 z hz, by obtain ⟨o, e, _⟩ := e6 z (.tail _ hz); rw [e]; simp⟩, e6.keeps k.h⟩
    | s z => exact absurd hm (hns y v z)
theorem SI.mutateN {s₀ s : Shared} {d₀ : Addr → Prop} {own : Own} {g : Str} {a : Addr} {h' : Heap} {o' : Obj} (S : SI T s₀ d₀ env own Γ s) (hx : own g = some a) (hng : ∀ v fl, (g, some (v, fl)) ∉ Γ) (hns : ∀ y v z, (y, some (v, .s z)) ∉ Γ)
    (hs : Heap.SameBut a s.heap h') (ho' : h'.get? a = some o') (hok : (o'.dict = none ∧ ∀ vs, o'.data ≠ .fields vs) ∧ o'.cls ≠ .type "tuple" ∧ o'.cls ≠ .type "frame") :
    SI T s₀ d₀ env own Γ { s with heap := h' } ∧ Pres T.N env own s { s with heap := h' } := by
  obtain ⟨m, cm, F, hn⟩ := S.frm
  obtain ⟨h1, h2, h3, o, h4, h5, h6, h7⟩ := S.ownNew g a hx
  have F' := F.but hs h1 (Ne.symm h2) (fun y c hc q => h3 y c hc q.symm)
  have chg : ChgH T.N (· = a) s.heap h' := ChgH.of_but hs
  have ntup : ∀ z, z = a → NotTup s.heap z := fun z hz => May.notTup S z (.inr (.inr ⟨g, hz ▸ hx⟩))
  refine ⟨⟨S.eok, S.cok, S.ok, S.wd0, S.d0, fun y b e => ?_, S.ownInj, m, cm, F', fun y v fl hm => ?_⟩, ⟨⟨_, _, rfl⟩, chg.mono fun b hb => .inr (.inr ⟨g, by rw [show b = a from hb]; exact hx⟩), fun b e => ?_⟩⟩
  · obtain ⟨g1, g2, g3, o1, g4, g5, g6, g7⟩ := S.ownNew y b e
    by_cases hb : b = a
    · subst hb; exact ⟨g1, g2, g3, o', ho', hok⟩
    · exact ⟨g1, g2, g3, o1, (hs.2 b hb).trans g4, g5, g6, g7⟩
  · obtain ⟨val, l, r⟩ := hn y v fl hm
    refine ⟨val, l, ?_⟩
    cases fl with
    | c => exact RepV.chg r chg ntup fun b hb q => hb.2.2.2 g (by rw [show b = a from q]; exact hx)
    | b => exact RepV.chg r chg ntup fun b hb q => hb.2.2 g (by rw [show b = a from q]; exact hx)
    | o =>
      obtain ⟨d1, a1, as1, e1, e2, e3, e4, e5, e6⟩ := r
      have hna : ∀ b ∈ a1 :: as1, ¬ b = a := fun b hb q => by
        rcases List.mem_cons.mp hb with rfl | hb
        · have := S.ownInj y g a (q ▸ e3) hx
          subst this
          exact hng v _ hm
        · exact (e5 b hb).2.2.2 g (q ▸ hx)
      exact ⟨d1, a1, as1, e1, e2, e3, reads_chg chg ntup e4 hna, e5, e6.chg chg hna⟩
    | s z => exact absurd hm (hns y v z)
  · by_cases hb : b = a
    · subst hb
      have e' : h'.get? b = none := e
      rw [ho'] at e'; cases e'
    · exact (hs.2 b hb).symm.trans e
theorem valueAt_last {k : List Nat} {d : PyData} {v : Value} : ∀ {m : List (List Nat × PyData)} {vs : List Value}, vs.length = m.length → m.lookup k = none → valueAt (((m ++ [(k, d)]).map fun p => mkS p.1).zip (vs ++ [v])) (mkS k) = some v
  | [], [], _, _ => by simp [valueAt]
  | [], _ :: _, h, _ => by simp at h
  | _ :: _, [], h, _ => by simp at h
  | (x, d') :: m, u :: vs, h, hl => by
    rw [List.lookup_cons] at hl
    by_cases hx : k = x
    · subst hx; simp at hl
    · have h1 : (k == x) = false := by simpa using hx
      rw [h1] at hl
      have ih := valueAt_last (k := k) (d := d) (v := v) (m := m) (vs := vs) (by simpa using h) hl
      have h2 : decide (mkS x = mkS k) = false := decide_eq_false fun e => hx (mkS_inj.mp e).symm
      unfold valueAt at ih ⊢
      simp only [List.cons_append, List.map_cons, List.zip_cons_cons, List.find?_cons, h2]
      exact ih
structure Side (T : St) (d₀ : Addr → Prop) (env : Env) (own : Own) (h : Heap) (x : Str) (a b : Addr) (m : List (List Nat × PyData)) (k : List Nat) (l : List PyData) : Prop where
  nm : NameIs env h x (.ref a)
  sm : a ≠ sysModules
  ownA : own x = some a
  ownB : own gN = some b
  di : ∃ vs us o kk, vs.length = m.length ∧ h.DictOf (strKind T.prog T.w) a (((m ++ [(k, PyData.none)]).map fun p => mkS p.1).zip (vs ++ [.ref b])) ∧ RepAll T.w (regOf d₀ env own .c) h vs (m.map (·.2)) ∧ h.get? b = some o ∧ o.cls = .type "list" ∧ o.dict = none ∧ o.data = .seq (List.toArray us) kk ∧ RepAll T.w (regOf d₀ env own .c) h us l
section
variable {d₀ : Addr → Prop} {own : Own} {h h' : Heap} {x : Str} {a b : Addr} {k : List Nat} {l : List PyData}
theorem Side.kp (S : Side T d₀ env own h x a b m k l) (hk : KpH T.N h h') : Side T d₀ env own h' x a b m k l := by
  obtain ⟨vs, us, o, kk, h1, ⟨o1, es, ep, g1, g2, g3⟩, h3, h4, h5, h6, h7, h8⟩ := S.di
  exact ⟨S.nm.kp hk, S.sm, S.ownA, S.ownB, vs, us, o, kk, h1, ⟨o1, es, ep, hk.get g1 (by rw [g2.1]; simp), g2, g3⟩, h3.keeps hk, hk.get h4 (by rw [h5]; simp), h5, h6, h7, h8.keeps hk⟩
theorem NameIs.but {z : Addr} {v : Value} (r : NameIs env h x v) (hb : Heap.SameBut z h h') (h1 : env.locals ≠ z) (h2 : ∀ y c, env.cells.lookup y = some c → c ≠ z) : NameIs env h' x v := by
  rcases r with ⟨k, m, hn, hv⟩ | ⟨k, c, hc, hv⟩
  · exact .inl ⟨k, m, hn.sameBut hb h1, hv⟩
  · exact .inr ⟨k, c, hc, hv.sameBut hb (h2 _ _ hc)⟩
theorem Side.but {s₀ s : Shared} {y : Str} {z : Addr} (S : Side T d₀ env own s.heap x a b m k l) (SS : SI T s₀ d₀ env own Γ s) (hb : Heap.SameBut z s.heap h') (hy : own y = some z) (hyx : y ≠ x) (hyg : y ≠ gN) : Side T d₀ env own h' x a b m k l := by
  obtain ⟨vs, us, o, kk, h1, ⟨o1, es, ep, g1, g2, g3⟩, h3, h4, h5, h6, h7, h8⟩ := S.di
  have chg : ChgH T.N (· = z) s.heap h' := ChgH.of_but hb
  have ntup : ∀ q, q = z → NotTup s.heap q := fun q hq => May.notTup SS q (.inr (.inr ⟨y, hq ▸ hy⟩))
  obtain ⟨w1, w2, w3, _⟩ := SS.ownNew y z hy
  have haz : a ≠ z := fun q => hyx (SS.ownInj y x z hy (q ▸ S.ownA))
  have hbz : b ≠ z := fun q => hyg (SS.ownInj y gN z hy (q ▸ S.ownB))
  have hR : ∀ q, regOf d₀ env own .c q → ¬ q = z := fun q hq e => hq.2.2.2 y (e ▸ hy)
  exact ⟨S.nm.but hb (Ne.symm w2) (fun y' c hc q => w3 y' c hc q.symm), S.sm, S.ownA, S.ownB, vs, us, o, kk, h1, ⟨o1, es, ep, (hb.2 a haz).trans g1, g2, g3⟩, h3.chg chg ntup hR, (hb.2 b hbz).trans h4, h5, h6, h7, h8.chg chg ntup hR⟩
theorem Side.app {s₀ s : Shared} {d : PyData} {v : Value} {o' : Obj} {kk' : Nat} {us : List Value} (S : Side T d₀ env own s.heap x a b m k l) (SS : SI T s₀ d₀ env own Γ s) (hb : Heap.SameBut b s.heap h') (hxg : x ≠ gN) (hl : RepAll T.w (regOf d₀ env own .c) s.heap us l) (hv : Rep T.w (regOf d₀ env own .c) s.heap v d)
    (ho : h'.get? b = some o') (hc : o'.cls = .type "list") (hdi : o'.dict = none) (hd : o'.data = .seq (List.toArray (us ++ [v])) kk') : Side T d₀ env own h' x a b m k (l ++ [d]) := by
  obtain ⟨vs, us', o, kk, h1, ⟨o1, es, ep, g1, g2, g3⟩, h3, h4, h5, h6, h7, h8⟩ := S.di
  have chg : ChgH T.N (· = b) s.heap h' := ChgH.of_but hb
  have ntup : ∀ q, q = b → NotTup s.heap q := fun q hq => May.notTup SS q (.inr (.inr ⟨gN, hq ▸ S.ownB⟩))
  obtain ⟨w1, w2, w3, _⟩ := SS.ownNew gN b S.ownB
  have haz : a ≠ b := fun q => hxg (SS.ownInj x gN b (q ▸ S.ownA) S.ownB)
  have hR : ∀ q, regOf d₀ env own .c q → ¬ q = b := fun q hq e => hq.2.2.2 gN (e ▸ S.ownB)
  exact ⟨S.nm.but hb (Ne.symm w2) (fun y' c hc q => w3 y' c hc q.symm), S.sm, S.ownA, S.ownB, vs, us ++ [v], o', kk', h1, ⟨o1, es, ep, (hb.2 a haz).trans g1, g2, g3⟩, h3.chg chg ntup hR, ho, hc, hdi, hd, (hl.append (RepAll.cons hv RepAll.nil)).chg chg ntup hR⟩
theorem Ns_one {h : Heap} {a : Addr} {m m' : Str → Option Value} (x : h.Ns a m) (y : h.Ns a m') (n : Str) : m n = m' n := by
  obtain ⟨o, es, ep, h1, h2, _, h3⟩ := x
  obtain ⟨o', es', ep', g1, g2, _, g3⟩ := y
  rw [h1] at g1; cases g1
  rw [h2] at g2; cases g2
  rw [← h3, g3]
theorem Side.back {s₀ s : Shared} (S : Side T d₀ env own s.heap x a b m k l) (SS : SI T s₀ d₀ env own Γ s) (hp : Put Γ x (some (.d (dictD (m ++ [(k, .list l)])), .o)) Γ') (hxg : x ≠ gN) (hg : env.kindOf gN = none) (hns : ∀ y v z, (y, some (v, .s z)) ∉ Γ) :
    SI T s₀ d₀ env (fun y => if y = gN then none else own y) Γ' s := by
  obtain ⟨vs, us, o, kk, h1, hdo, h3, h4, h5, h6, h7, h8⟩ := S.di
  obtain ⟨mm, cm, F, hn⟩ := SS.frm
  have sub : ∀ y a, (if y = gN then none else own y) = some a → y ≠ gN ∧ own y = some a := fun y a e => by
    by_cases hy : y = gN
    · simp [hy] at e
    · rw [if_neg hy] at e; exact ⟨hy, e⟩
  have up : ∀ fl a, regOf d₀ env own fl a → regOf d₀ env (fun y => if y = gN then none else own y) fl a := regOf_le (fun a ha y q => ha y (sub y a q).2)
  have lk : Look env mm cm x (.ref a) := by
    rcases S.nm with ⟨kd, m', hn', hv⟩ | ⟨kd, c, hc, hv⟩
    · exact .inl ⟨kd, (Ns_one F.ns hn' x).trans hv⟩
    · obtain ⟨o1, q1, q2⟩ := hv
      obtain ⟨o2, q3, q4⟩ := F.cell x c hc
      rw [q1] at q3; cases q3
      rw [q2] at q4
      exact .inr ⟨kd, ⟨c, hc⟩, by injection q4 with q4; exact q4.symm⟩
  refine ⟨SS.eok, SS.cok, by rw [hp.names]; exact SS.ok, SS.wd0, SS.d0, fun y b e => SS.ownNew y b (sub y b e).2, fun y z b e1 e2 => SS.ownInj y z b (sub y b e1).2 (sub z b e2).2, mm, cm, F, fun y v fl hm' => ?_⟩
  rcases hp.cases SS.ok.nodup y _ hm' with ⟨rfl, e⟩ | ⟨hyx, hm''⟩
  · cases e
    refine ⟨.ref a, lk, ?_⟩
    obtain ⟨w1, w2, w3, _⟩ := SS.ownNew gN b S.ownB
    have hRb : regOf d₀ env (fun y => if y = gN then none else own y) .c b := ⟨fun hd => SS.d0 b hd w1, w2, w3, fun z q => (sub z b q).1 (SS.ownInj z gN b (sub z b q).2 S.ownB)⟩
    have rl : Rep T.w (regOf d₀ env (fun y => if y = gN then none else own y) .c) s.heap (.ref b) (.list l) := rep_list hRb ⟨o, h4, h5, kk, h7⟩ (h8.mono (up .c))
    obtain ⟨as, q1, q2, q3⟩ := (h3.mono (up .c)).append (RepAll.cons rl RepAll.nil)
    have hdo' : s.heap.DictOf (strKind T.prog T.w) a (((m ++ [(k, PyData.list l)]).map fun p => mkS p.1).zip (vs ++ [.ref b])) := by
      rw [show ((m ++ [(k, PyData.list l)]).map fun p => mkS p.1) = ((m ++ [(k, PyData.none)]).map fun p => mkS p.1) by simp]
      exact hdo
    obtain ⟨z1, z2, _⟩ := dict_reads (as := as) S.sm hdo' (by rw [List.map_append]; exact q1) q3
    exact ⟨_, a, as, rfl, rfl, by show (if _ = gN then none else own _) = _; rw [if_neg hxg]; exact S.ownA, z1, q2, z2⟩
  · obtain ⟨val, l', r⟩ := hn y v fl hm''
    refine ⟨val, l', ?_⟩
    have hyg : y ≠ gN := by
      rintro rfl
      rcases l' with ⟨q, _⟩ | ⟨q, _⟩ <;> rw [hg] at q <;> cases q
    cases fl with
    | c => exact RepV.mono r (up .c)
    | b => exact RepV.mono r (up .b)
    | o =>
      obtain ⟨d1, a1, as1, e1, e2, e3, e4, e5, e6⟩ := r
      exact ⟨d1, a1, as1, e1, e2, by simp only [if_neg hyg]; exact e3, e4, fun b hb => up .c b (e5 b hb), e6⟩
    | s z => exact absurd hm'' (hns y v z)
end
end
end Mine
end
section
open PySem PySem.Calls PyProof.Rows PySem.W
set_option linter.all false
set_option maxRecDepth 100000
namespace Mine
section
variable {T : St} {n : Nat} {env : Env} {Γ Γd Γe Γf Γg : Gm} {Q : Fw → Gm → Prop} {m L : List (List Nat × PyData)}
theorem Ex.chain {x ln : Str} {p₁ p₂ p₃ p₄ p₅ p₆ p₇ p₈ p₉ p₁₀ p₁₁ p₁₂ : Pos} {e1 e2 ke ke' ke'' test me : PySem.Expr} {k k2 : List Nat} {l : List PyData} {d2 dm : PyData} {fk fk2 fk3 : Fl} {b : Bool} {rest : List Stmt}
    (hm : (x, some (.d (dictD m), .o)) ∈ Γ) (hpd : Put Γ x none Γd) (hxg : x ≠ gN) (hg : env.kindOf gN = none) (hns : ∀ y v z, (y, some (v, .s z)) ∉ Γ)
    (he1 : EvF T n env Γ e1 (.list l)) (hk1 : Ev T n env Γd ke (.d (.str (mkS k))) fk) (hn : (m.map (·.1)).Nodup) (hl : m.lookup k = none) (hz : m.length ≤ sizeLine) (hzl : l.length ≤ sizeLine)
    (hs1 : swapsWith e1 (some (.Subscript (.Name x p₁) ke p₂)) p₃.line env = pure false) (ht : IsT T n env Γd test b)
    (hyes : b = true → ln ≠ x ∧ (ln, some (.d (dictD L), .o)) ∈ Γd ∧ Ev T n env Γd e2 (.d d2) .c ∧ Ev T n env Γd ke' (.d (.str (mkS k2))) fk2 ∧ (L.map (·.1)).Nodup ∧ L.length ≤ sizeLine ∧ Put Γd ln (some (.d (dictD (setM L k2 d2)), .o)) Γe ∧
      swapsWith e2 (some (.Subscript (.Name ln p₄) ke' p₅)) p₆.line env = pure false ∧ Ev T n env Γe ke'' (.d (.str (mkS k))) fk3 ∧ Ev T n env Γe me (.d dm) .c ∧ (∀ o i, subscripted ke'' false o i = operate [o, i] (getItem o i)) ∧
      attributeBase (.Subscript (.Name x p₇) ke'' p₈) "append" env (eval (.Subscript (.Name x p₇) ke'' p₈) env) = eval (.Subscript (.Name x p₇) ke'' p₈) env ∧ starEach [me] env = [(false, eval me env)] ∧ (p₉.endLine == p₁₀.line) = true ∧
      swapsWith (.Call (.Attribute (.Subscript (.Name x p₇) ke'' p₈) "append" p₉) [me] [] p₁₀) none p₁₁.line env = pure false ∧ Put Γe x (some (.d (dictD (m ++ [(k, .list (l ++ [dm]))])), .o)) Γf ∧ Ex T n env Γf rest Q)
    (hno : b = false → Put Γd x (some (.d (dictD (m ++ [(k, .list l)])), .o)) Γg ∧ Ex T n env Γg rest Q) :
    Ex T n env Γ (.Assign [.Subscript (.Name x p₁) ke p₂] e1 p₃ :: .If test [.Assign [.Subscript (.Name ln p₄) ke' p₅] e2 p₆, .Expr (.Call (.Attribute (.Subscript (.Name x p₇) ke'' p₈) "append" p₉) [me] [] p₁₀) p₁₁] [] p₁₂ :: rest) Q := ⟨fun {A s₀ d₀ own s E QQ} hA S hq hx => by
  refine wpAny_execs_cons (wpAny_Assign_Subscript (he1.run hA S.rd fun val s₁ k₁ r₁ => ?_) hs1)
  obtain ⟨b₁, bs, rfl, b2, b3, b4, b5, b6, ob, b7, b8⟩ := r₁.top rfl
  have hnsd : ∀ y v z, (y, some (v, .s z)) ∉ Γd := fun y v z h => by
    rcases hpd.cases S.ok.nodup y _ h with ⟨_, e⟩ | ⟨_, h⟩
    · cases e
    · exact hns y v z h
  have hngd : ∀ v fl, (x, some (v, fl)) ∉ Γd := fun v fl h => by
    rcases hpd.cases S.ok.nodup x _ h with ⟨_, e⟩ | ⟨h, _⟩
    · cases e
    · exact h rfl
  have hdb := S.ok.nodebug x (List.mem_map_of_mem (f := fun p : Str × Slot => p.1) hm)
  have ho' : OwnLe own (fun y => if y = gN then some b₁ else own y) s := fun y a e => by
    have e : (if y = gN then some b₁ else own y) = some a := e
    by_cases hy : y = gN
    · rw [if_pos hy] at e; cases e; exact .inr b5
    · rw [if_neg hy] at e; exact .inl ⟨y, e⟩
  have S₁ := S.ghost k₁ b5 ⟨ob, b7, b8⟩ hg hns
  have P₁ : Pres T.N env own s s₁ := .of_kp k₁
  have b3' : ∀ z ∈ bs, regOf d₀ env (fun y => if y = gN then some b₁ else own y) .c z := fun z hz => by
    have h := b3 z hz
    refine ⟨h.1, h.2.1, h.2.2.1, fun y q => ?_⟩
    have q : (if y = gN then some b₁ else own y) = some z := q
    by_cases hy : y = gN
    · rw [if_pos hy] at q; cases q; exact b6 hz
    · rw [if_neg hy] at q; exact h.2.2.2 y q
  have hgb : (fun y => if y = gN then some b₁ else own y) gN = some b₁ := if_pos rfl
  have hgo : ∀ y, y ≠ gN → (fun y => if y = gN then some b₁ else own y) y = own y := fun y hy => if_neg hy
  generalize (fun y => if y = gN then some b₁ else own y) = own' at ho' S₁ b3' hgb hgo
  have ho3 : OwnLe own (fun y => if y = gN then none else own' y) s := fun y a e => by
    by_cases hy : y = gN
    · simp [hy] at e
    · simp only [if_neg hy] at e; rw [hgo y hy] at e; exact .inl ⟨y, e⟩
  obtain ⟨m₁, cm₁, F₁, hn₁⟩ := S₁.frm
  obtain ⟨vx, lx, dd, a, as, e1, e2, e3, e4, e5, e6⟩ := hn₁ x _ _ hm
  cases e1
  subst e2
  refine ld_name S.eok.kind (lx.is F₁) hdb (hk1.run hA (S₁.drop hpd).rd fun kv s₂ k₂ r₂ => ?_)
  obtain ⟨t, rfl⟩ := Rep.str_inv r₂
  have S₂ := (S₁.drop hpd).kp k₂
  obtain ⟨hsm, vs, hdo, hvs⟩ := dict_parts (prog := T.prog) (reads_kp k₂.h e4) (e6.keeps k₂.h) hn
  have hall : RepAll T.w (regOf d₀ env own' .c) s₂.heap vs (m.map (·.2)) := ⟨as, hvs, e5, fun z hz => (e6.keeps k₂.h) z (.tail _ hz)⟩
  have hlen : vs.length = m.length := by rw [hall.length, List.length_map]
  refine wpAny_setItem_pairs (knd := strKind T.prog T.w) (k := mkS k) (by show (mkS k == mkS k) = true; simp) hdo (fun h' hd' hb => ?_) (by rw [List.length_zip, List.length_map, hlen, Nat.min_self]; exact hz)
  rw [stored_new (d := PyData.none) hlen hl] at hd'
  have hxa : own' x = some a := e3
  obtain ⟨o₁, es₁, ep₁, g1, g2, g3⟩ := id hd'
  obtain ⟨S₃, p₃⟩ := (S₂.kp (.tok s₂ (s₂.toks + 1))).mutateN (g := x) hxa hngd hnsd hb g1 ⟨⟨g2.2.1, fun vs q => by rw [g3.1] at q; cases q⟩, by rw [g2.1]; simp, by rw [g2.1]; simp⟩
  have chg : ChgH T.N (· = a) s₂.heap h' := ChgH.of_but hb
  have ntup : ∀ z, z = a → NotTup s₂.heap z := fun z hz => May.notTup S₂ z (.inr (.inr ⟨x, hz ▸ hxa⟩))
  have hR : ∀ q, regOf d₀ env own' .c q → ¬ q = a := fun q hq e => hq.2.2.2 x (e ▸ hxa)
  obtain ⟨w1, w2, w3, _⟩ := S₂.ownNew x a hxa
  have hba : b₁ ≠ a := fun q => hxg (S₂.ownInj x gN a hxa (q ▸ hgb))
  have b2' := reads_kp k₂.h b2
  have b4' := b4.keeps k₂.h
  have side : Side T d₀ env own' h' x a b₁ m k l := by
    refine ⟨((lx.is F₁).kp k₂.h).but hb (Ne.symm w2) (fun y' c hc q => w3 y' c hc q.symm), hsm, hxa, hgb, ?_⟩
    cases b2' with
    | @list _ o2 us kk _ _ q1 q2 q3 q4 =>
      have q5 := k₂.h.get b7 b8.2.2
      rw [q1] at q5; cases q5
      refine ⟨vs, us.toList, _, kk, hlen, hd', hall.chg chg ntup hR, (hb.2 b₁ hba).trans q1, q2, b8.1.1, by simpa using q3, RepAll.chg ⟨bs, q4, b3', fun z hz => b4' z (.tail _ hz)⟩ chg ntup hR⟩
  have P₃ : Pres T.N env own s { s₂ with heap := h', toks := s₂.toks + 1 } := ((P₁.trans ho' (.of_kp k₂)).trans ho' (.of_kp (.tok s₂ (s₂.toks + 1)))).trans ho' p₃
  clear p₃ hd' hb g1 chg
  have side' : Side T d₀ env own' ({ s₂ with heap := h', toks := s₂.toks + 1 } : Shared).heap x a b₁ m k l := side
  have S₃' : SI T s₀ d₀ env own' Γd { s₂ with heap := h', toks := s₂.toks + 1 } := S₃
  clear side S₃
  show wpAny T.M A (execs _ env) QQ E { s₂ with heap := h', toks := s₂.toks + 1 }
  generalize ({ s₂ with heap := h', toks := s₂.toks + 1 } : Shared) = s₃ at side' S₃' P₃ ⊢
  refine wpAny_execs_cons (wpAny_If (ht.run hA S₃'.rd fun s₄ k₄ => ?_))
  have S₄ := S₃'.kp k₄
  have side₄ := side'.kp k₄.h
  have P₄ := P₃.trans ho' (.of_kp k₄)
  cases b with
  | false =>
    obtain ⟨hpg, hrest⟩ := hno rfl
    have S₅ := side₄.back S₄ hpg hxg hg hnsd
    exact wpAny_execs_nil (hrest.run hA S₅ (fun f f' s' Γ' own'' S' p o fr q => hq f f' s' Γ' own'' S' (P₄.trans ho3 p) (ho3.trans o P₄) fr q) fun k e s' Γ' own'' S' p o er q => hx k e s' Γ' own'' S' (P₄.trans ho3 p) (ho3.trans o P₄) er q)
  | true =>
    obtain ⟨hlx, hln, he2, hk2, hnL, hzL, hpl, hs2, hk3, hme, hsub, hbase, hstar, hline, hs3, hpf, hrest⟩ := hyes rfl
    refine wpAny_execs_cons (wpAny_Assign_Subscript (he2.run hA S₄.rd fun val s₅ k₅ r₅ => ?_) hs2)
    have S₅ := S₄.kp k₅
    obtain ⟨m₅, cm₅, F₅, hn₅⟩ := S₅.frm
    obtain ⟨vl, ll, dl, aL, asL, l1, l2, l3, l4, l5, l6⟩ := hn₅ ln _ _ hln
    cases l1
    subst l2
    have hlg : ln ≠ gN := by
      rintro rfl
      rcases ll with ⟨q, _⟩ | ⟨q, _⟩ <;> rw [hg] at q <;> cases q
    have hldb := S₅.ok.nodebug ln (List.mem_map_of_mem (f := fun p : Str × Slot => p.1) hln)
    refine ld_name S.eok.kind (ll.is F₅) hldb (hk2.run hA S₅.rd fun kv s₆ k₆ r₆ => ?_)
    obtain ⟨t6, rfl⟩ := Rep.str_inv r₆
    have S₆ := S₅.kp k₆
    refine dict_storeA (d := d2) (R := regOf d₀ env own' .c) (reads_kp k₆.h l4) (l6.keeps k₆.h) l5 (Rep.keeps r₅ k₆.h) (fun b hb q => hb.2.2.2 ln (q ▸ l3)) hnL hzL fun h₇ o₇ hb₇ ho₇ hok₇ hrep₇ => ?_
    have side₆ := (side₄.kp k₅.h).kp k₆.h
    have S₆' := S₆.kp (.tok s₆ (s₆.toks + 1))
    obtain ⟨S₇, p₇⟩ := S₆'.mutate hln l3 hpl hb₇ ho₇ hok₇ hrep₇
    have side₇ : Side T d₀ env own' h₇ x a b₁ m k l := side₆.but S₆ hb₇ l3 hlx hlg
    have P₇ := ((P₄.trans ho' (.of_kp (k₅.trans k₆))).trans ho' (.of_kp (.tok s₆ (s₆.toks + 1)))).trans ho' p₇
    have hnse : ∀ y v z, (y, some (v, .s z)) ∉ Γe := fun y v z h => by
      rcases hpl.cases S₅.ok.nodup y _ h with ⟨_, e⟩ | ⟨_, h⟩
      · cases e
      · exact hnsd y v z h
    have side₇' : Side T d₀ env own' ({ s₆ with heap := h₇, toks := s₆.toks + 1 } : Shared).heap x a b₁ m k l := side₇
    have S₇' : SI T s₀ d₀ env own' Γe { s₆ with heap := h₇, toks := s₆.toks + 1 } := S₇
    show wpAny T.M A (execs _ env) _ E { s₆ with heap := h₇, toks := s₆.toks + 1 }
    clear S₇ side₇ p₇ hb₇ ho₇ hrep₇
    generalize ({ s₆ with heap := h₇, toks := s₆.toks + 1 } : Shared) = s₇ at side₇' S₇' P₇ ⊢
    have htr : backTo p₁₀ (starEach [me] env) = [(false, eval me env)] := by rw [hstar]; rfl
    refine wpAny_execs_cons (wpAny_Expr (wpAny_Call_append hbase (by rw [htr]; rfl) hline htr ?_) (by unfold interactive; rw [S.eok.kind]; rfl) hs3)
    refine Subscript_ (ld_name S.eok.kind side₇'.nm hdb (hk3.run hA S₇'.rd fun kv s₈ k₈ r₈ => ?_))
    obtain ⟨t8, rfl⟩ := Rep.str_inv r₈
    have side₈ := side₇'.kp k₈.h
    have S₈ := S₇'.kp k₈
    obtain ⟨vs8, us8, o8, kk8, q1, q2, q3, q4, q5, q6, q7, q8⟩ := side₈.di
    refine tail_any q2.typeIs slot_dict_getitem.lookup (wpAny_getItem_of (knd := strKind T.prog T.w) (k := mkS k) (by show (mkS k == mkS k) = true; simp) q2.mapOf (valueAt_last q1 hl) ?_) (hsub _ _)
    have k₈' : Kp T.N s₈ { s₈ with toks := s₈.toks + 1 } := .tok _ _
    refine ⟨b₁, List.toArray us8, rfl, ⟨o8, kk8, q4, q5, q6, q7⟩, hme.run hA (S₈.kp k₈').rd fun y s₉ k₉ r₉ => ?_⟩
    have kk := k₈'.trans k₉
    have side₉ := side₈.kp kk.h
    have S₉ := S₈.kp kk
    have g4 : s₉.heap.get? b₁ = some o8 := kk.h.get q4 (by rw [q5]; simp)
    refine list_append_plainL ⟨o8, kk8, g4, q5, q6, q7⟩ (fun h₁₀ hl₁₀ hb₁₀ => ?_) (by rw [List.size_toArray, q8.length]; exact hzl)
    obtain ⟨o10, k10, g1, g2, g3, g5⟩ := hl₁₀
    have hnge : ∀ v fl, (gN, some (v, fl)) ∉ Γe := fun v fl h => by
      obtain ⟨m₉, cm₉, F₉, hn₉⟩ := S₉.frm
      obtain ⟨_, l', _⟩ := hn₉ gN _ _ h
      rcases l' with ⟨q, _⟩ | ⟨q, _⟩ <;> rw [hg] at q <;> cases q
    have g5' : o10.data = .seq (List.toArray (us8 ++ [y])) k10 := by simpa using g5
    obtain ⟨S₁₀, p₁₀'⟩ := S₉.mutateN (g := gN) hgb hnge hnse hb₁₀ g1 ⟨⟨g3, fun vs q => by rw [g5'] at q; cases q⟩, by rw [g2]; simp, by rw [g2]; simp⟩
    have side₁₀ : Side T d₀ env own' h₁₀ x a b₁ m k (l ++ [dm]) := side₉.app S₉ hb₁₀ hxg (q8.keeps kk.h) r₉ g1 g2 g3 g5'
    have S₁₁ := Side.back (s := { s₉ with heap := h₁₀ }) side₁₀ S₁₀ hpf hxg hg hnse
    have P₁₁ := (P₇.trans ho' (.of_kp (k₈.trans kk))).trans ho' p₁₀'
    exact wpAny_execs_nil (hrest.run hA S₁₁ (fun f f' s' Γ' own'' S' p o fr q => hq f f' s' Γ' own'' S' (P₁₁.trans ho3 p) (ho3.trans o P₁₁) fr q) fun k e s' Γ' own'' S' p o er q => hx k e s' Γ' own'' S' (P₁₁.trans ho3 p) (ho3.trans o P₁₁) er q)⟩
end
end Mine
end
open PySem PySem.W PySem.W.X PyProof.Rows
namespace Mine
def vw : Program := { PySem.Challenge.pw_uf060013_10 with main := { PySem.Challenge.pw_uf060013_10.main with body := (((((((PySem.Challenge.pw_uf060013_10.main.body.eraseIdx 25).eraseIdx 22).eraseIdx 20).eraseIdx 18).eraseIdx 14).eraseIdx 6).eraseIdx 1) } }
theorem said : OpenLaw.wellSaid PySem.Challenge.rw_uf060013_10 = true := by kernel_rfl
local macro_rules | `(tactic| o_law) => `(tactic| refine holds_law Mine.said fun said => ?_)
set_option hygiene false in
local macro_rules | `(tactic| o_head $H:term) => `(tactic| (
  refine holds_open (q := Mine.vw) (loose := []) (Xt := fun s => xlAt Mine.vw [] s && recOk (RowW.records PySem.Challenge.rw_uf060013_10.row.toRowW) s) (XP := XL Mine.vw []) (Yf := Hook.obs $H) (Ya := Hook.val $H) (YP := Hook.says $H) (N := 4218) ?hl (Hook.of $H) (Hook.keeps $H) (fun s e => xl_of s (Bool.and_eq_true_iff.mp e).1) XL.keeps (by rfl) (by rfl) (by rfl) (fun s e => recFacts_of (Bool.and_eq_true_iff.mp e).2) (by rfl) (by assumption) (by decide +kernel) ⟨rfl, rfl, rfl, rfl, rfl, by decide +kernel⟩ ?hw ?hc
  (case hl =>
    show LeftO PySem.Challenge.pw_uf060013_10 Mine.vw [] _ _ _ _
    intro w
    unfold openEnds fencedOpening
    delta topFrom Mine.vw
    rw [PySem.W.Fast.te14364793385576792824, PySem.W.Fast.te10274390034422433532, PySem.W.Fast.te14082659384304107361, PySem.W.Fast.te1435165496053646825, PySem.W.Fast.te14289696077712309145, PySem.W.Fast.te4187177175401517315]
    kernel_rfl)))
open_top hd for PySem.Challenge.rw_uf060013_10
local macro_rules | `(tactic| walk_at "mMem") => `(tactic| with_reducible ((repeat (first | exact List.mem_cons_self | apply List.mem_cons_of_mem)); done))
local macro_rules | `(tactic| walk_at "mPut") => `(tactic| with_reducible repeat (first | exact Put.here | apply Put.there))
local macro_rules | `(tactic| walk_at "mKd") => `(tactic| first | exact kd (by assumption) rfl | exact rfl)
local macro_rules | `(tactic| walk_at "mLoc") => `(tactic| first | exact Or.inl (kd (by assumption) rfl) | exact Or.inr (kd (by assumption) rfl))
local macro_rules | `(tactic| walk_at "mG") => `(tactic| (refine (GdK.g (by assumption)) _ _ ?_; k_is))
local macro_rules | `(tactic| walk_at "mB") => `(tactic| exact (GdK.bi (by assumption)) rfl rfl)
local macro_rules | `(tactic| walk_at "mR") => `(tactic| with_unfolding_all rfl)
local macro_rules | `(tactic| walk_at "mThn") => `(tactic| first | (with_reducible show Thn _ _ _ _ _ _ _); dsimp only [Thn] | (with_reducible show TurnF _ _ _ _ _); dsimp only [TurnF] | (with_reducible show Turn _ _ _ _ _); dsimp only [Turn])
local macro_rules | `(tactic| walk_at "mIt") => `(tactic| with_reducible assumption)
local macro_rules | `(tactic| walk_at "m") => `(tactic| repeat' (first
  | with_reducible first
    | apply Ev.name; walk_at "mMem"
    | apply Ev.ofF; apply EvF.cut
    | apply Ev.sub | apply Ev.ofF
    | exact EvF.kInt | exact EvF.kS | exact EvF.kBool | exact EvF.kNone | exact EvF.dict0 | apply EvF.neg
    | apply EvF.bin | apply EvF.cmp | apply EvF.not | apply EvF.bo1 | apply EvF.and | apply EvF.or | apply EvF.cut
    | apply Ev.still; apply Ev.sub
    | apply EvF.meth | apply EvF.listL | apply EvF.tupleL
    | exact Bin.addI | exact Bin.subI | apply Bin.catS | apply Bin.catL | apply Bin.repL
    | exact Cmp.eqI | exact Cmp.neI | exact Cmp.ltI | exact Cmp.gtI | exact Cmp.geI | exact Cmp.eqL | exact Cmp.neL | exact Cmp.isNone
    | apply Sub.strL | apply Sub.list | apply Sub.tuple
    | exact EvA.nil | apply EvA.cons | exact EvL.nil | apply EvL.cons
    | apply IsT.cmp | apply IsT.not | exact IsT.andNil | exact IsT.orNil | apply IsT.and | apply IsT.or | apply IsT.bool
    | exact Opt.none | apply Opt.some | apply Cut.s | apply Cut.l
    | apply Meth.index | apply Meth.join | apply Meth.split | exact Meth.startswith
    | exact Put.here | apply Put.there | exact Fst.nil | apply Fst.cons
    | apply Ex.cons | apply Ex.nil | apply Ex1.ite | apply Ex1.ret | apply Ex1.retNone | apply Ex1.cont | apply Ex1.brk | apply Ex1.assign
    | apply Ex1.append; focus (walk_at "mMem")
  | (with_reducible apply Ev.still; focus (apply Ev.name; walk_at "mMem")); with_unfolding_all rfl
  | (with_reducible apply EvF.globS); (focus (walk_at "mKd")); (focus (walk_at "mG")); with_unfolding_all rfl
  | (with_reducible apply EvF.isi); rotate_left; (focus (walk_at "mKd")); (focus (walk_at "mG")); (focus (walk_at "mB")); (focus (walk_at "mKd")); (focus (with_unfolding_all rfl)); (focus (walk_at "mG")); (focus (walk_at "mB")); rotate_right
  | (with_reducible apply EvF.callB); (focus (walk_at "mKd")); (focus (with_unfolding_all rfl)); (focus (walk_at "mG")); (focus (walk_at "mB")); (focus (first | exact Or.inl ⟨_, rfl⟩ | exact Or.inr ⟨_, rfl⟩))
  | (with_reducible apply EvF.fnL); (focus (walk_at "mKd")); (focus (with_unfolding_all rfl))
  | (with_reducible apply Bin.modP); omega
  | (with_reducible apply Bin.divP) <;> omega
  | (with_reducible apply Bin.mulR) <;> omega
  | (with_reducible apply Bin.mulL) <;> omega
  | exact Cmp.inL rfl | exact Cmp.ninL rfl
  | with_reducible first | apply Cmp.eqPL | apply Cmp.nePL
  | apply CallB.lenS | apply CallB.lenL | apply CallB.strI | exact CallB.intB | apply CallB.intS | apply CallB.listL | exact CallB.minI
  | exact IsA.str | exact IsA.list | exact IsA.tuple
  | (with_reducible show Fun _ _ _ _ _); walk_at "mC"
  | walk_at "mThn"
  | (with_reducible show _ = _ → _); (intro)
  | (with_reducible first | show behindInMarks _ _ = false | show starEach _ _ = _ | show swapsWith _ _ _ _ = _ | show attributeBase _ _ _ _ = _ | show decide (List.length _ < 30) = true | show (_ == _) = true | show still _ = true); with_unfolding_all rfl
  | intro _ _; (with_reducible show subscripted _ _ _ _ = _); with_unfolding_all rfl
  | intro _; (with_reducible show isTrue _ _ _ = _); with_unfolding_all rfl
  | (with_reducible show Env.kindOf _ _ = some .local ∨ _); walk_at "mLoc"
  | (with_reducible show Fl.c = Fl.c ∨ _); exact Or.inl rfl
  | (with_reducible show _ = Fl.c ∨ stillAll (List.map PyData.int _) = true); exact Or.inr (stillAll_ints _)
  | (with_reducible show _ = Fl.c ∨ stillAll (List.map (fun x => PyData.str (mkS x)) _) = true); exact Or.inr (still_PL _)
  | (with_reducible show _ ≤ sizeLine); first | (rw [sizeLine_is]; (try simp only [List.length_append, List.length_map, List.length_cons, List.length_nil, rangeD_length, List.length_range, List.length_singleton]); omega) | decide +kernel
  | (with_reducible first | show (_ : Nat) ≤ _ | show (_ : Int) ≤ _ | show (_ : Int) < _); omega
  | (with_reducible show _[_]? = some _); walk_at "mIt"))
local macro_rules | `(tactic| walk_at "mDef") => `(tactic| try simp only [List.map_nil, List.map_cons, List.cons_append, List.nil_append])
local macro_rules | `(tactic| walk_at "mItr") => `(tactic| first
  | refine Itr.range (fl := Fl.c) (by walk_at "mKd") (by walk_at "mG") (by walk_at "mB") ?_ (by omega) (by omega) (by walk_at "mR"); walk_at "m"
  | refine Itr.list ?_ (by intro _; walk_at "mR"); walk_at "m")
local macro_rules | `(tactic| walk_at "mPrm") => `(tactic| ((repeat (first | with_reducible exact Prm.nil | apply Prm.c; focus (walk_at "mR") | with_reducible apply Prm.b)); done))
local macro_rules | `(tactic| walk_at "mBinds") => `(tactic| first | exact Binds.of1 (fun _ => rfl) | exact Binds.of2 (fun _ _ => rfl) | exact Binds.of0 rfl | exact Binds.of3 (fun _ _ _ => rfl) | exact Binds.of4 (fun _ _ _ _ => rfl))

abbrev GK (T : St) : Prop := GdK T (hd.heap_1 T.w.params)
theorem s1 : (Str.ofString "~").cps.toList = [126] := by decide +kernel
theorem s2 : (Str.ofString "/").cps.toList = [47] := by decide +kernel
theorem s3 : (Str.ofString "@").cps.toList = [64] := by decide +kernel
theorem s4 : (Str.ofString ".").cps.toList = [46] := by decide +kernel
theorem s5 : (Str.ofString "..").cps.toList = [46, 46] := by decide +kernel
theorem s6 : (Str.ofString "").cps.toList = [] := by decide +kernel
def FRONT : List Nat := (Str.ofString " !\"#$&'()*+,-./0123456789:;<=>?@ABCDEFGHIJKLMNOPQRSTUVWXYZ[\\]^_`").cps.toList
def SIGNS : List Nat := (Str.ofString "abcdefghijklmnopqrstuvwxyz{|}~").cps.toList
theorem odd_sgn {c : Nat} (h : Odd c) : IsSgn c ∧ escG c = esc c := by
  rcases h with rfl | rfl | rfl | rfl
  · exact ⟨⟨13, by decide, by decide⟩, by decide⟩
  · exact ⟨⟨14, by decide, by decide⟩, by decide⟩
  · exact ⟨⟨31, by decide, by decide⟩, by decide⟩
  · exact ⟨⟨93, by decide, by decide⟩, by decide⟩
section
variable {T : St} (G : GK T)
include G
theorem law_of_spec {ns : List Int} {k : Int} (hns : ns.length ≤ 63) (h0 : 0 ≤ k) : Fun T 1 "_law_of" [.d (.list (ns.map .int)), .d (.int k)] (.int (ns.getD k.toNat 0)) := by
  refine Fun.defK G ["_law_script", "_law_k"] [] (by k_is) (by k_is) (by k_is) (by walk_at "mBinds") (by walk_at "mPrm") (by rfl) (by rfl) ⟨rfl, rfl, rfl⟩ (fun env he => ?_)
  walk_at "mDef"
  have hc := pyCut_le (some k) (some (k + 1)) (ns.map PyData.int)
  rw [List.length_map] at hc
  walk_at "m"
  · exact of_item ns k h0
  · rfl
  · rfl
theorem law_signs_spec : Fun T 1 "_law_signs" [] (.str (mkS signsL)) := by
  refine Fun.defK G [] ["_law_some"] (by k_is) (by k_is) (by k_is) (by walk_at "mBinds") (by walk_at "mPrm") (by rfl) (by rfl) ⟨rfl, rfl, rfl⟩ (fun env he => ?_)
  walk_at "mDef"
  walk_at "m"
  exact Ends.str (by decide +kernel)
end
local macro_rules | `(tactic| walk_at "mC") => `(tactic| exact law_signs_spec (by assumption))
local macro_rules | `(tactic| walk_at "mC") => `(tactic| exact law_of_spec (by assumption) (by assumption) (by omega))
section
variable {T : St} (G : GK T)
include G
theorem law_escape_spec {c : Nat} (hc : IsSgn c) : Fun T 2 "_law_escape" [.d (.str (mkS [c]))] (.str (mkS (escG c))) := by
  refine Fun.defK G ["_law_sign"] ["_law_number"] (by k_is) (by k_is) (by k_is) (by walk_at "mBinds") (by walk_at "mPrm") (by rfl) (by rfl) ⟨rfl, rfl, rfl⟩ (fun env he => ?_)
  walk_at "mDef"
  obtain ⟨hi, h1, h2⟩ := signs_at hc
  have d1 := decS_one (i := ((idx c : Nat) : Int) / 10) (by omega) (by omega)
  have d2 := decS_one (i := ((idx c : Nat) : Int) % 10) (by omega) (by omega)
  have l1 : (decS (((idx c : Nat) : Int) / 10)).length = 1 := by rw [d1]; rfl
  have l2 : (decS (((idx c : Nat) : Int) % 10)).length = 1 := by rw [d2]; rfl
  walk_at "m"
  · exact h2
  · rw [s1, sizeLine_is]; simp; omega
  · rw [s1, sizeLine_is]; simp; omega
  · refine Ends.str ?_
    rw [s1, d1, d2]
    unfold escG
    show [126] ++ [_] ++ [_] = _
    simp only [List.singleton_append, List.cons_append, List.nil_append]
    congr 2
theorem law_must_spec {nm : List Nat} {k : Nat} (hk : k < nm.length) (hz : nm.length ≤ 1000) : Fun T 1 "_law_must" [.d (.str (mkS nm)), .d (.int k)] (.bool (mst nm k)) := by
  refine Fun.defK G ["_law_name", "_law_k"] [] (by k_is) (by k_is) (by k_is) (by walk_at "mBinds") (by walk_at "mPrm") (by rfl) (by rfl) ⟨rfl, rfl, rfl⟩ (fun env he => ?_)
  walk_at "mDef"
  have h1 : nm[Int.toNat (k : Int)]? = some (nm.getD k 0) := by simp [List.getD, hk]
  have h2 : nm[Int.toNat 0]? = some (nm.getD 0 0) := by simp [List.getD, show 0 < nm.length by omega]
  walk_at "m"
  · rename_i a
    rw [s1, s2] at a
    refine Ends.ret (congrArg PyData.bool ?_)
    simp only [mst]
    simp only [Bool.or_eq_true, Bool.or_false, decide_eq_true_eq, List.cons.injEq, and_true] at a
    rcases a with a | a <;> rw [a] <;> simp
  · rename_i a
    rw [s1, s2] at a
    rw [s3, s4, s5]
    refine Ends.ret (congrArg PyData.bool ?_)
    simp only [mst]
    simp only [Bool.or_eq_false_iff, decide_eq_false_iff_not, List.cons.injEq, and_true] at a
    rw [decide_eq_false a.1, decide_eq_false a.2]
    by_cases hk0 : k = 0
    · subst hk0; simp
    · have : ((k : Int) == 0) = false := by simpa using hk0
      simp [this, hk0]
end
local macro_rules | `(tactic| walk_at "mC") => `(tactic| exact law_must_spec (by assumption) (by omega) (by omega))
section
variable {T : St} (G : GK T)
include G
theorem law_escape_odd {c : Nat} (hc : Odd c) : Fun T 2 "_law_escape" [.d (.str (mkS [c]))] (.str (mkS (esc c))) := by
  rw [← (odd_sgn hc).2]; exact law_escape_spec G (odd_sgn hc).1
end
local macro_rules | `(tactic| walk_at "mC") => `(tactic| exact law_escape_odd (by assumption) (by assumption))
section
variable {T : St} (G : GK T)
include G
theorem law_due_spec {nm : List Nat} (hz : nm.length ≤ 1000) : Fun T 3 "_law_due_part" [.d (.str (mkS nm))] (.str (mkS (wr nm))) := by
  refine Fun.defK G ["_law_name"] ["_law_found", "_law_k"] (by k_is) (by k_is) (by k_is) (by walk_at "mBinds") (by walk_at "mPrm") (by rfl) (by rfl) ⟨rfl, rfl, rfl⟩ (fun env he => ?_)
  walk_at "mDef"
  walk_at "m"
  rw [s6]
  refine Ex1.forI (items := rangeD (nm.length : Int).toNat) (fl := .c) (by walk_at "mItr") (by simp) (by walk_at "mLoc")
    (fun i Γ => ∃ sl, Γ = ([("_law_name", some (.d (.str (mkS nm)), .c)), ("_law_found", some (.d (.str (mkS (wrTo nm i))), .c)), ("_law_k", sl)] : Gm)) ⟨_, rfl⟩ (fun i d Γ hd hΓ => ?_) (fun Γ hΓ => ?_)
  · obtain ⟨sl, rfl⟩ := hΓ
    obtain ⟨hi, rfl⟩ := rangeD_get hd
    rw [Int.toNat_natCast] at hi
    refine ⟨.c, _, .inl rfl, by walk_at "mPut", ?_⟩
    have h1 : nm[Int.toNat (i : Int)]? = some (nm.getD i 0) := by simp [List.getD, hi]
    have hl := wrTo_len nm i
    have hp := pc_len nm i
    refine Ex.cons (Ex1.ite (b := mst nm i) ?_ (fun hm => ?_) (fun hm => ?_))
    · walk_at "m"
    · have ho := mst_odd hi hm
      have hpc : pc nm i = esc (nm.getD i 0) := if_pos hm
      rw [hpc] at hp
      walk_at "m"
      exact ⟨_, by rw [wrTo_succ, hpc]⟩
    · have hpc : pc nm i = [nm.getD i 0] := if_neg (by simp [hm])
      walk_at "m"
      exact ⟨_, by rw [wrTo_succ, hpc]⟩
  · obtain ⟨sl, rfl⟩ := hΓ
    rw [rangeD_length, Int.toNat_natCast]
    walk_at "m"
    rfl
theorem escaped_spec {c : Nat} (hc : Odd c) : Fun T 1 "escaped" [.d (.str (mkS [c]))] (.str (mkS (esc c))) := by
  refine Fun.defK G ["sign"] [] (by k_is) (by k_is) (by k_is) (by walk_at "mBinds") (by walk_at "mPrm") (by rfl) (by rfl) ⟨rfl, rfl, rfl⟩ (fun env he => ?_)
  walk_at "mDef"
  have key : ∃ i : Nat, i < 94 ∧ (FRONT ++ SIGNS)[i]? = some c ∧ (∀ k, k < i → (FRONT ++ SIGNS)[k]? ≠ some c) ∧ esc c = [126] ++ decS (i : Int) := by
    rcases hc with rfl | rfl | rfl | rfl
    · exact ⟨13, by decide +kernel, by decide +kernel, by decide +kernel, by decide +kernel⟩
    · exact ⟨14, by decide +kernel, by decide +kernel, by decide +kernel, by decide +kernel⟩
    · exact ⟨31, by decide +kernel, by decide +kernel, by decide +kernel, by decide +kernel⟩
    · exact ⟨93, by decide +kernel, by decide +kernel, by decide +kernel, by decide +kernel⟩
  obtain ⟨i, hi, h1, h2, h3⟩ := key
  have l1 := decS_len (i := (i : Int)) (by omega) (by omega)
  unfold FRONT SIGNS at h1 h2
  walk_at "m"
  · exact h2
  · rw [s1, sizeLine_is]; simp; omega
  · exact Ends.str (by rw [s1, h3])
end
local macro_rules | `(tactic| walk_at "mC") => `(tactic| exact escaped_spec (by assumption) (by assumption))
section
variable {T : St} (G : GK T)
include G
theorem written_spec {nm : List Nat} (hz : nm.length ≤ 1000) : Fun T 2 "written" [.d (.str (mkS nm))] (.str (mkS (wr nm))) := by
  refine Fun.defK G ["name"] ["found", "at", "sign"] (by k_is) (by k_is) (by k_is) (by walk_at "mBinds") (by walk_at "mPrm") (by rfl) (by rfl) ⟨rfl, rfl, rfl⟩ (fun env he => ?_)
  walk_at "mDef"
  walk_at "m"
  rw [s6]
  refine Ex1.forI (items := rangeD (nm.length : Int).toNat) (fl := .c) (by walk_at "mItr") (by simp) (by walk_at "mLoc")
    (fun i Γ => ∃ sl sl', Γ = ([("name", some (.d (.str (mkS nm)), .c)), ("found", some (.d (.str (mkS (wrTo nm i))), .c)), ("at", sl), ("sign", sl')] : Gm)) ⟨_, _, rfl⟩ (fun i d Γ hd hΓ => ?_) (fun Γ hΓ => ?_)
  · obtain ⟨sl, sl', rfl⟩ := hΓ
    obtain ⟨hi, rfl⟩ := rangeD_get hd
    rw [Int.toNat_natCast] at hi
    refine ⟨.c, _, .inl rfl, by walk_at "mPut", ?_⟩
    have h1 : nm[Int.toNat (i : Int)]? = some (nm.getD i 0) := by simp [List.getD, hi]
    have hl := wrTo_len nm i
    have hp := pc_len nm i
    refine Ex.cons (Ex1.assign (d := .str (mkS [nm.getD i 0])) (by walk_at "m") (by walk_at "mPut") (by walk_at "mLoc") (by walk_at "mR") (show Ex _ _ _ _ _ _ from ?_))
    refine Ex.cons (Ex1.ite (b := mst nm i) ?_ (fun hm => ?_) (fun hm => ?_))
    · have e : mst nm i = (decide ([nm.getD i 0] = [47]) || (decide ([nm.getD i 0] = [126]) || ((((i : Int) == 0) && ((decide ([nm.getD i 0] = [64]) || (decide (nm = [46]) || (decide (nm = [46, 46]) || false))) && true)) || false))) := by
        have : ((i : Int) == 0) = decide (i = 0) := by rw [Bool.eq_iff_iff]; simp
        rw [this]
        simp [mst]
      rw [e, ← s2, ← s1, ← s3, ← s5, ← s4]
      walk_at "m"
    · have ho := mst_odd hi hm
      have hpc : pc nm i = esc (nm.getD i 0) := if_pos hm
      rw [hpc] at hp
      walk_at "m"
      exact ⟨_, _, by rw [wrTo_succ, hpc]⟩
    · have hpc : pc nm i = [nm.getD i 0] := if_neg (by simp [hm])
      walk_at "m"
      exact ⟨_, _, by rw [wrTo_succ, hpc]⟩
  · obtain ⟨sl, sl', rfl⟩ := hΓ
    rw [rangeD_length, Int.toNat_natCast]
    walk_at "m"
    rfl
end
def Good (l : List Nat) (p q : Nat) : Prop := l = [p, q] ∧ isDig p = true ∧ isDig q = true ∧ val2 p q ≤ 93
theorem front_len : FRONT.length = 64 := by decide +kernel
theorem signs_len : SIGNS.length = 30 := by decide +kernel
theorem front_signs : FRONT ++ SIGNS = signsL := by decide +kernel
theorem dig_all {p q : Nat} (h1 : isDig p = true) (h2 : isDig q = true) : NumText.AllDigits [p, q] := by
  simp only [isDig, Bool.and_eq_true, decide_eq_true_eq] at h1 h2
  intro c hc
  simp only [List.mem_cons, List.not_mem_nil, or_false] at hc
  rcases hc with rfl | rfl <;> omega
theorem dig_val (p q : Nat) : NumText.digitsVal [p, q] = val2 p q := by
  show (0 * 10 + (p - 48)) * 10 + (q - 48) = val2 p q
  unfold val2; omega
theorem fig_test (p q : Nat) : (!(isDig p && isDig q)) = (((([p, q].length : Nat) : Int) != 2) || (!decide (p ∈ (Str.ofString "0123456789").cps.toList) || (!decide (q ∈ (Str.ofString "0123456789").cps.toList) || false))) := by
  rw [digits_is, digits_is]
  cases isDig p <;> cases isDig q <;> rfl
section
variable {T : St} (G : GK T)
include G
theorem sign_of_ok {p q : Nat} (h1 : isDig p = true) (h2 : isDig q = true) (h3 : val2 p q ≤ 93) : Fun T 1 "sign_of" [.d (.str (mkS [p, q]))] (.str (mkS [sgn (val2 p q)])) := by
  refine Fun.defK G ["figures"] ["number"] (by k_is) (by k_is) (by k_is) (by walk_at "mBinds") (by walk_at "mPrm") (by rfl) (by rfl) ⟨rfl, rfl, rfl⟩ (fun env he => ?_)
  walk_at "mDef"
  have hd := dig_all h1 h2
  have hv := dig_val p q
  have i0 : [p, q][Int.toNat 0]? = some p := rfl
  have i1 : [p, q][Int.toNat 1]? = some q := rfl
  have hF := front_len
  have hS := signs_len
  have hit : (FRONT ++ SIGNS)[val2 p q]? = some (sgn (val2 p q)) := by rw [front_signs]; exact signsL_at (by omega)
  generalize val2 p q = v at h3 hv hit ⊢
  have j0 : v < 64 → FRONT[Int.toNat (v : Int)]? = some (sgn v) := fun h => by
    rw [Int.toNat_natCast, ← hit, List.getElem?_append_left (by omega)]
  have j1 : ¬ v < 64 → SIGNS[Int.toNat ((v : Int) - (FRONT.length : Int))]? = some (sgn v) := fun h => by
    rw [← hit, List.getElem?_append_right (by omega)]
    congr 1; omega
  unfold FRONT at hF j0 j1
  unfold SIGNS at hS j1
  refine Ex.cons (Ex1.ite (b := !(isDig p && isDig q)) (by rw [fig_test]; walk_at "m") (fun h => by rw [h1, h2] at h; cases h) (fun _ => ?_))
  refine Ex.nil (show Ex _ _ _ _ _ _ from ?_)
  refine Ex.cons (Ex1.assign (d := .int v) (by rw [← hv]; walk_at "m" <;> first | exact hd | (exfalso; contradiction) | exact (show 2 ≤ 640 by decide)) (by walk_at "mPut") (by walk_at "mLoc") (by walk_at "mR") (show Ex _ _ _ _ _ _ from ?_))
  refine Ex.cons (Ex1.ite (b := false) (by rw [show false = decide ((v : Int) ≥ 64 + 30) from (decide_eq_false (by omega)).symm, ← show ((64 : Nat) : Int) = 64 from rfl, ← show ((30 : Nat) : Int) = 30 from rfl, ← hF, ← hS]; walk_at "m") (fun h => nomatch h) (fun _ => ?_))
  refine Ex.nil (show Ex _ _ _ _ _ _ from ?_)
  refine Ex.cons (Ex1.ite (b := decide ((v : Int) < ((64 : Nat) : Int))) (by rw [← hF]; walk_at "m") (fun h => ?_) (fun h => ?_))
  · have j := j0 (by have := of_decide_eq_true h; omega)
    clear j0 j1
    walk_at "m"
    exact Ends.str rfl
  · have h' : ¬ v < 64 := by have := of_decide_eq_false h; omega
    have j := j1 h'
    clear j0 j1
    walk_at "m"
    exact Ends.str rfl
end
local macro_rules | `(tactic| walk_at "mC") => `(tactic| (with_reducible assumption))
section
variable {T : St} (G : GK T)
include G
theorem name_of_ok {l x : List Nat} (hx : readL l = some x) (hz : l.length ≤ 1000000) : Fun T 2 "name_of" [.d (.str (mkS l))] (.str (mkS x)) := by
  refine Fun.defK G ["part"] ["found", "at"] (by k_is) (by k_is) (by k_is) (by walk_at "mBinds") (by walk_at "mPrm") (by rfl) (by rfl) ⟨rfl, rfl, rfl⟩ (fun env he => ?_)
  walk_at "mDef"
  walk_at "m"
  rw [s6]
  refine Ex1.whil (fun m Γ => ∃ (k : Nat) (acc : List Nat), k ≤ l.length ∧ m = l.length - k ∧ acc.length ≤ k ∧ readL l = (readL (l.drop k)).map (acc ++ ·) ∧
    Γ = ([("part", some (.d (.str (mkS l)), .c)), ("found", some (.d (.str (mkS acc)), .c)), ("at", some (.d (.int (k : Int)), .c))] : Gm)) l.length ⟨0, [], by omega, by omega, by simp, by simp, rfl⟩ (fun m Γ hΓ => ?_)
  obtain ⟨k, acc, hk, rfl, hacc, hread, rfl⟩ := hΓ
  refine ⟨decide ((k : Int) < (l.length : Int)), by walk_at "m", fun hb => ?_, fun hb => ?_⟩
  · have hb' : k < l.length := by have := of_decide_eq_true hb; omega
    clear hb
    have hat : l[Int.toNat (k : Int)]? = some (l.getD k 0) := by simp [List.getD, hb']
    have hdrop : l.drop k = l.getD k 0 :: l.drop (k + 1) := by
      rw [List.drop_eq_getElem_cons hb']; simp [List.getD, hb']
    generalize l.getD k 0 = c at hat hdrop
    have hsz : ∀ y : Nat, acc.length + [y].length ≤ sizeLine := fun y => by rw [sizeLine_is, List.length_singleton]; omega
    refine Ex.cons (Ex1.ite (b := decide (c = 126)) ?_ (fun hm => ?_) (fun hm => ?_))
    · have e : decide (c = 126) = decide ([c] = (Str.ofString "~").cps.toList) := by rw [s1]; simp
      rw [e]
      walk_at "m"
    · have hc : c = 126 := of_decide_eq_true hm
      subst hc
      clear hm
      have hcut : pyCut (some ((k : Int) + 1)) (some ((k : Int) + 3)) l = (l.drop (k + 1)).take 2 := by
        rw [pyCut_ab _ _ _ (by omega) (by omega)]
        rw [show ((k : Int) + 1).toNat = k + 1 by omega, show ((k : Int) + 3).toNat - (k + 1) = 2 by omega]
      rcases Classical.em (∃ p q r, l.drop (k + 1) = p :: q :: r ∧ isDig p = true ∧ isDig q = true ∧ val2 p q ≤ 93) with ⟨p, q, r, hr, g1, g2, g3⟩ | hbad
      · have hso := sign_of_ok G g1 g2 g3
        have hf : Fun T 1 "sign_of" [.d (.str (mkS (pyCut (some ((k : Int) + 1)) (some ((k : Int) + 3)) l)))] (.str (mkS [sgn (val2 p q)])) := by
          rw [hcut, hr]; exact hso
        have hl3 : k + 3 ≤ l.length := by
          have := congrArg List.length hr
          simp only [List.length_drop, List.length_cons] at this
          omega
        have hdr : l.drop (k + 3) = r := by
          rw [show k + 3 = (k + 1) + 2 by omega, ← List.drop_drop, hr]; rfl
        walk_at "m"
        refine ⟨l.length - (k + 3), by omega, k + 3, acc ++ [sgn (val2 p q)], by omega, rfl, by simp; omega, ?_, rfl⟩
        rw [hread, hdrop, hr, hdr, readL_esc r g1 g2 g3]
        cases readL r <;> simp
      · exfalso
        rw [hread, hdrop, readL_bad] at hx
        · cases hx
        · intro p q r e h1 h2 h3
          exact hbad ⟨p, q, r, e, h1, h2, h3⟩
    · have hc : c ≠ 126 := of_decide_eq_false hm
      clear hm
      walk_at "m"
      refine ⟨l.length - (k + 1), by omega, k + 1, acc ++ [c], by omega, rfl, by simp; omega, ?_, rfl⟩
      rw [hread, hdrop, readL_plain hc]
      cases readL (l.drop (k + 1)) <;> simp
  · have hb' : ¬ k < l.length := by have := of_decide_eq_false hb; omega
    have hk' : k = l.length := by omega
    subst hk'
    walk_at "m"
    refine Ends.str ?_
    rw [hread, List.drop_length] at hx
    have := Option.some.inj hx
    rw [← this]; simp
end
theorem stepOf_cases (p : List Nat) : ((p = [] ∨ p = [46]) ∧ stepOf p = some []) ∨ (p = [46, 46] ∧ stepOf p = some [.up]) ∨ (∃ r, p = 64 :: r ∧ stepOf p = (readL r).map fun x => [.sh x]) ∨
    ∃ c r, p = c :: r ∧ c ≠ 64 ∧ p ≠ [46] ∧ p ≠ [46, 46] ∧ stepOf p = (readL p).map fun x => [.nm x] := by
  by_cases h1 : p = [] ∨ p = [46]
  · exact .inl ⟨h1, by unfold stepOf; rw [if_pos h1]⟩
  by_cases h2 : p = [46, 46]
  · exact .inr (.inl ⟨h2, by unfold stepOf; rw [if_neg h1, if_pos h2]⟩)
  rw [not_or] at h1
  match p, h1 with
  | [], h1 => exact absurd rfl h1.1
  | c :: r, h1 =>
    by_cases h3 : c = 64
    · subst h3
      refine .inr (.inr (.inl ⟨r, rfl, ?_⟩))
      unfold stepOf
      rw [if_neg (by simp), if_neg h2, if_pos (by rfl)]; rfl
    · refine .inr (.inr (.inr ⟨c, r, rfl, h3, h1.2, h2, ?_⟩))
      unfold stepOf
      rw [if_neg (by simpa using h1.2), if_neg h2, if_neg (by simpa using h3)]
def accD (path : List Nat) (i : Nat) : List PyData := (rootOf path ++ ((splitC 47 path).take i).flatMap fun p => (stepOf p).getD []).map stD
theorem accD_snoc {path p : List Nat} {i : Nat} {ss : List Stp} (hp : (splitC 47 path)[i]? = some p) (hs : stepOf p = some ss) : accD path (i + 1) = accD path i ++ ss.map stD := by
  unfold accD
  rw [List.take_succ, hp]
  simp [hs]
theorem accD_len (path : List Nat) : ∀ i, (accD path i).length ≤ i + 1
  | 0 => by unfold accD rootOf; split <;> simp
  | i + 1 => by
    have ih := accD_len path i
    cases hp : (splitC 47 path)[i]? with
    | none =>
      have : accD path (i + 1) = accD path i := by
        unfold accD
        rw [List.take_of_length_le (by have := List.getElem?_eq_none_iff.mp hp; omega), List.take_of_length_le (by have := List.getElem?_eq_none_iff.mp hp; omega)]
      rw [this]; omega
    | some p =>
      rcases stepOf_cases p with ⟨_, h⟩ | ⟨_, h⟩ | ⟨r, _, h⟩ | ⟨c, r, _, _, _, _, h⟩
      · rw [accD_snoc hp h]; simp; omega
      · rw [accD_snoc hp h]; simp; omega
      · cases hr : readL r with
        | none =>
          have : accD path (i + 1) = accD path i := by unfold accD; rw [List.take_succ, hp]; simp [h, hr]
          rw [this]; omega
        | some x => rw [accD_snoc (ss := [.sh x]) hp (by rw [h, hr]; rfl)]; simp; omega
      · cases hr : readL p with
        | none =>
          have : accD path (i + 1) = accD path i := by unfold accD; rw [List.take_succ, hp]; simp [h, hr]
          rw [this]; omega
        | some x => rw [accD_snoc (ss := [.nm x]) hp (by rw [h, hr]; rfl)]; simp; omega
local macro_rules | `(tactic| walk_at "mC") => `(tactic| (with_reducible assumption))
section
variable {T : St} (G : GK T)
include G
theorem steps_of_ok {path : List Nat} (hz : path.length ≤ 1000000) (hall : ∀ p ∈ splitC 47 path, (stepOf p).isSome = true) : Fun T 3 "steps_of" [.d (.str (mkS path))] (.list ((rootOf path ++ (splitC 47 path).flatMap fun p => (stepOf p).getD []).map stD)) := by
  refine Fun.defK G ["path"] ["found", "part"] (by k_is) (by k_is) (by k_is) (by walk_at "mBinds") (by walk_at "mPrm") (by rfl) (by rfl) ⟨rfl, rfl, rfl⟩ (fun env he => ?_)
  walk_at "mDef"
  have hps := splitC_len 47 path
  refine Ex.cons (Ex1.assignO (d := .list []) (EvF.listL EvL.nil (by decide)) rfl (by walk_at "mPut") (by walk_at "mLoc") (by walk_at "mR") (show Ex _ _ _ _ _ _ from ?_))
  refine Ex.cons (Ex1.mono (Q := fun f Γ => f = .next ∧ Γ = ([("path", some (.d (.str (mkS path)), .c)), ("found", some (.d (.list (accD path 0)), .o)), ("part", none)] : Gm)) (Ex1.ite (b := decide (path[0]? = some 47)) ?_ (fun h => ?_) (fun h => ?_)) ?_)
  · refine IsT.bool (Ev.ofF (EvF.meth (xs := [(.d (.str (mkS [47])), .c)]) (Ev.name (by walk_at "mMem")) (EvA.cons (Ev.ofF (EvF.cast EvF.kS (by rw [s2]))) EvA.nil (by walk_at "mR")) Meth.startswith (by walk_at "mR") (by walk_at "mR") (by walk_at "mR"))) (by intro _; walk_at "mR")
  · have h' := of_decide_eq_true h
    refine Ex.cons (Ex1.append (d := stD .root) (by walk_at "mMem") (Ev.ofF ?_) (by walk_at "mPut") (by decide) (by walk_at "mR") (by walk_at "mR") (by walk_at "mR") (by walk_at "mR") ?_)
    · show EvF _ _ _ _ _ (.tuple [.str (mkS (Str.ofString "root").cps.toList)])
      walk_at "m"
    · walk_at "mThn"
      refine Ex.nil ?_
      refine ⟨rfl, ?_⟩
      have : accD path 0 = [stD .root] := by unfold accD rootOf; rw [if_pos h']; rfl
      rw [this]; rfl
  · have h' := of_decide_eq_false h
    refine Ex.nil ⟨rfl, ?_⟩
    have : accD path 0 = [] := by unfold accD rootOf; rw [if_neg h']; rfl
    rw [this]
  rintro f Γ ⟨rfl, rfl⟩
  refine (show Ex _ _ _ _ _ _ from ?_)
  refine Ex.cons (Ex1.forI (items := PL (splitC 47 path)) (fl := .c) ?_ (by simp) (by walk_at "mLoc")
    (fun i Γ => ∃ sl, Γ = ([("path", some (.d (.str (mkS path)), .c)), ("found", some (.d (.list (accD path i)), .o)), ("part", sl)] : Gm)) ⟨_, rfl⟩ (fun i d Γ hd hΓ => ?_) (fun Γ hΓ => ?_))
  · skip
    refine Itr.list (Ev.ofF (EvF.meth (xs := [(.d (.str (mkS [47])), .c)]) (Ev.name (by walk_at "mMem")) (EvA.cons (Ev.ofF (EvF.cast EvF.kS (by rw [s2]))) EvA.nil (by walk_at "mR")) (Meth.split (by rw [sizeLine_is]; omega)) (by walk_at "mR") (by walk_at "mR") (by walk_at "mR"))) (by intro _; walk_at "mR")
  · obtain ⟨sl, rfl⟩ := hΓ
    obtain ⟨p, hpi, rfl⟩ : ∃ p, (splitC 47 path)[i]? = some p ∧ d = .str (mkS p) := by
      rw [List.getElem?_map] at hd
      obtain ⟨p, h1, h2⟩ := Option.map_eq_some_iff.mp hd
      exact ⟨p, h1, h2.symm⟩
    refine ⟨.c, _, .inl rfl, by walk_at "mPut", ?_⟩
    have hi : i < (splitC 47 path).length := (List.getElem?_eq_some_iff.mp hpi).1
    have hal := accD_len path i
    have hsl : (accD path i).length ≤ sizeLine := by rw [sizeLine_is]; omega
    have hpl : p.length ≤ 1000000 := Nat.le_trans (splitC_part 47 path p (List.mem_of_getElem? hpi)) hz
    have hok := hall p (List.mem_of_getElem? hpi)
    rcases stepOf_cases p with ⟨hp0, h⟩ | ⟨rfl, h⟩ | ⟨r, rfl, h⟩ | ⟨c, r, rfl, hc64, n1, n2, h⟩
    · have hts := accD_snoc hpi h
      refine Ex.cons (Ex1.ite (b := true) ?_ (fun _ => ?_) (fun h => nomatch h))
      · rw [show true = (decide (p = (Str.ofString "").cps.toList) || (decide (p = (Str.ofString ".").cps.toList) || false)) by rw [s6, s4, Bool.or_false]; rcases hp0 with rfl | rfl <;> rfl]
        walk_at "m"
      · refine Ex.cons (Ex1.cont ?_)
        exact ⟨_, by rw [hts]; first | rfl | (rw [List.map_nil, List.append_nil])⟩
    · have hts := accD_snoc hpi h
      refine Ex.cons (Ex1.ite (b := false) ?_ (fun h => nomatch h) (fun _ => ?_))
      · rw [show false = (decide ([46, 46] = (Str.ofString "").cps.toList) || (decide ([46, 46] = (Str.ofString ".").cps.toList) || false)) by rw [s6, s4]; rfl]
        walk_at "m"
      refine Ex.nil (show Ex _ _ _ _ _ _ from ?_)
      refine Ex.cons (Ex1.ite (b := true) ?_ (fun _ => ?_) (fun h => nomatch h))
      · rw [show true = decide ([46, 46] = (Str.ofString "..").cps.toList) from (decide_eq_true s5.symm).symm]
        walk_at "m"
      refine Ex.cons (Ex1.append (d := stD .up) (by walk_at "mMem") (Ev.ofF ?_) (by walk_at "mPut") hsl (by walk_at "mR") (by walk_at "mR") (by walk_at "mR") (by walk_at "mR") ?_)
      · show EvF _ _ _ _ _ (.tuple [.str (mkS (Str.ofString "up").cps.toList)])
        walk_at "m"
      · refine (show Ex _ _ _ _ _ _ from Ex.nil ?_)
        refine (show Ex _ _ _ _ _ _ from Ex.nil ?_)
        exact ⟨_, by rw [hts]; first | rfl | (rw [List.map_nil, List.append_nil])⟩
    · have n1 : (64 :: r) ≠ [46] := by simp
      have n2 : (64 :: r) ≠ [46, 46] := by simp
      cases hr : readL r with
      | none => rw [h, hr] at hok; cases hok
      | some x =>
        rw [hr] at h
        have hts := accD_snoc (ss := [.sh x]) hpi h
        have h0 : (64 :: r)[Int.toNat 0]? = some 64 := rfl
        have hrl : r.length + 1 ≤ 1000000 := hpl
        have hcut : pyCut (some 1) none (64 :: r) = r := by rw [pyCut_from _ _ (by omega)]; rfl
        have hf : Fun T 2 "name_of" [.d (.str (mkS (pyCut (some 1) none (64 :: r))))] (.str (mkS x)) := by rw [hcut]; exact name_of_ok G hr (by simp at hpl; omega)
        refine Ex.cons (Ex1.ite (b := false) ?_ (fun h => nomatch h) (fun _ => ?_))
        · rw [show false = (decide ((64 :: r) = (Str.ofString "").cps.toList) || (decide ((64 :: r) = (Str.ofString ".").cps.toList) || false)) by rw [s6, s4, decide_eq_false (by simp), decide_eq_false n1]; rfl]
          walk_at "m"
        refine Ex.nil (show Ex _ _ _ _ _ _ from ?_)
        refine Ex.cons (Ex1.ite (b := false) ?_ (fun h => nomatch h) (fun _ => ?_))
        · rw [show false = decide ((64 :: r) = (Str.ofString "..").cps.toList) from (decide_eq_false (by rw [s5]; exact n2)).symm]
          walk_at "m"
        refine Ex.cons (Ex1.ite (b := true) ?_ (fun _ => ?_) (fun h => nomatch h))
        · rw [show true = decide ([64] = (Str.ofString "@").cps.toList) from (decide_eq_true s3.symm).symm]
          walk_at "m"
        refine Ex.cons (Ex1.append (d := stD (.sh x)) (by walk_at "mMem") (Ev.ofF ?_) (by walk_at "mPut") hsl (by walk_at "mR") (by walk_at "mR") (by walk_at "mR") (by walk_at "mR") ?_)
        · show EvF _ _ _ _ _ (.tuple [.str (mkS (Str.ofString "share").cps.toList), .str (mkS x)])
          walk_at "m"
        · refine (show Ex _ _ _ _ _ _ from Ex.nil ?_)
          refine (show Ex _ _ _ _ _ _ from Ex.nil ?_)
          refine (show Ex _ _ _ _ _ _ from Ex.nil ?_)
          exact ⟨_, by rw [hts]; first | rfl | (rw [List.map_nil, List.append_nil])⟩
    · cases hr : readL (c :: r) with
      | none => rw [h, hr] at hok; cases hok
      | some x =>
        rw [hr] at h
        have hts := accD_snoc (ss := [.nm x]) hpi h
        have h0 : (c :: r)[Int.toNat 0]? = some c := rfl
        have hrl : r.length + 1 ≤ 1000000 := hpl
        have hf : Fun T 2 "name_of" [.d (.str (mkS (c :: r)))] (.str (mkS x)) := name_of_ok G hr (by omega)
        refine Ex.cons (Ex1.ite (b := false) ?_ (fun h => nomatch h) (fun _ => ?_))
        · rw [show false = (decide ((c :: r) = (Str.ofString "").cps.toList) || (decide ((c :: r) = (Str.ofString ".").cps.toList) || false)) by rw [s6, s4, decide_eq_false (by simp), decide_eq_false n1]; rfl]
          walk_at "m"
        refine Ex.nil (show Ex _ _ _ _ _ _ from ?_)
        refine Ex.cons (Ex1.ite (b := false) ?_ (fun h => nomatch h) (fun _ => ?_))
        · rw [show false = decide ((c :: r) = (Str.ofString "..").cps.toList) from (decide_eq_false (by rw [s5]; exact n2)).symm]
          walk_at "m"
        refine Ex.cons (Ex1.ite (b := false) ?_ (fun h => nomatch h) (fun _ => ?_))
        · rw [show false = decide ([c] = (Str.ofString "@").cps.toList) from (decide_eq_false (by rw [s3]; simpa using hc64)).symm]
          walk_at "m"
        refine Ex.cons (Ex1.append (d := stD (.nm x)) (by walk_at "mMem") (Ev.ofF ?_) (by walk_at "mPut") hsl (by walk_at "mR") (by walk_at "mR") (by walk_at "mR") (by walk_at "mR") ?_)
        · show EvF _ _ _ _ _ (.tuple [.str (mkS (Str.ofString "name").cps.toList), .str (mkS x)])
          walk_at "m"
        · refine (show Ex _ _ _ _ _ _ from Ex.nil ?_)
          refine (show Ex _ _ _ _ _ _ from Ex.nil ?_)
          refine (show Ex _ _ _ _ _ _ from Ex.nil ?_)
          exact ⟨_, by rw [hts]; first | rfl | (rw [List.map_nil, List.append_nil])⟩
  · obtain ⟨sl, rfl⟩ := hΓ
    walk_at "mThn"
    refine Ex.cons (Ex1.retO (by walk_at "mMem") ?_)
    rw [List.length_map]
    show PyData.list (accD path _) = _
    unfold accD
    rw [List.take_length]
end
section
variable {T : St} (G : GK T)
include G
theorem odd_item {k : Nat} (h : k < 14) : [PyData.str (mkS (Str.ofString ".").cps.toList), .str (mkS (Str.ofString "..").cps.toList), .str (mkS (Str.ofString "~").cps.toList), .str (mkS (Str.ofString "/").cps.toList), .str (mkS (Str.ofString "@").cps.toList), .str (mkS (Str.ofString "@a").cps.toList), .str (mkS (Str.ofString "a").cps.toList), .str (mkS (Str.ofString "b").cps.toList), .str (mkS (Str.ofString "...").cps.toList), .str (mkS (Str.ofString ".a").cps.toList), .str (mkS (Str.ofString "~13").cps.toList), .str (mkS (Str.ofString "a/b").cps.toList), .str (mkS (Str.ofString " ").cps.toList), .str (mkS (Str.ofString "..a").cps.toList)][k]? = some (.str (mkS (oddL.getD k []))) := by
  match k, h with
  | 0, _ | 1, _ | 2, _ | 3, _ | 4, _ | 5, _ | 6, _ | 7, _ | 8, _ | 9, _ | 10, _ | 11, _ | 12, _ | 13, _ => rfl
theorem law_name_by_spec {c : Int} : Fun T 2 "_law_name_by" [.d (.int c)] (.str (mkS (nameBy c))) := by
  refine Fun.defK G ["_law_cell"] ["_law_odd", "_law_size", "_law_name", "_law_k"] (by k_is) (by k_is) (by k_is) (by walk_at "mBinds") (by walk_at "mPrm") (by rfl) (by rfl) ⟨rfl, rfl, rfl⟩ (fun env he => ?_)
  walk_at "mDef"
  have hod := odd_item G (k := (c / 3 % 14).toNat) (by omega)
  refine Ex.cons (Ex1.assign (by walk_at "m") (by walk_at "mPut") (by walk_at "mLoc") (by walk_at "mR") (show Ex _ _ _ _ _ _ from ?_))
  refine Ex.cons (Ex1.ite (b := c % 3 == 0) (by walk_at "m") (fun h => ?_) (fun h => ?_))
  · walk_at "m"
    exact Ends.str (by unfold nameBy; rw [if_pos (by simpa using h)])
  have h3 : ¬ c % 3 = 0 := by simpa using h
  clear h
  refine Ex.nil (show Ex _ _ _ _ _ _ from ?_)
  refine Ex.cons (Ex1.assign (by walk_at "m") (by walk_at "mPut") (by walk_at "mLoc") (by walk_at "mR") (show Ex _ _ _ _ _ _ from ?_))
  have hsz := nmSize_le c
  clear hod
  generalize (Vl.d (PyData.list _), Fl.c) = odd
  refine Ex.cons (Ex1.mono (Q := fun f Γ => f = .next ∧ Γ = ([("_law_cell", some (.d (.int c), .c)), ("_law_odd", some odd), ("_law_size", some (.d (.int (nmSize c)), .c)), ("_law_name", none), ("_law_k", none)] : Gm)) (Ex1.ite (b := c / 12 % 9 == 4) (by walk_at "m") (fun h => ?_) (fun h => ?_)) ?_)
  · have h' : c / 12 % 9 = 4 := by simpa using h
    have e : nmSize c = 1 + c / 3 % 4 + c / 108 % 40 := if_pos h'
    rw [e]
    walk_at "m"
    exact ⟨rfl, rfl⟩
  · have h' : ¬ c / 12 % 9 = 4 := by simpa using h
    have e : nmSize c = 1 + c / 3 % 4 := if_neg h'
    rw [e]
    walk_at "m"
    exact ⟨rfl, rfl⟩
  rintro f Γ ⟨rfl, rfl⟩
  walk_at "mThn"
  refine Ex.cons (Ex1.assign (by walk_at "m") (by walk_at "mPut") (by walk_at "mLoc") (by walk_at "mR") (show Ex _ _ _ _ _ _ from ?_))
  rw [s6]
  refine Ex.cons (Ex1.forI (items := rangeD (nmSize c).toNat) (fl := .c) (by walk_at "mItr") (by simp) (by walk_at "mLoc")
    (fun i Γ => ∃ sl, Γ = ([("_law_cell", some (.d (.int c), .c)), ("_law_odd", some odd), ("_law_size", some (.d (.int (nmSize c)), .c)), ("_law_name", some (.d (.str (mkS ((List.range i).map (nmS c)))), .c)), ("_law_k", sl)] : Gm)) ⟨_, rfl⟩ (fun i d Γ hd hΓ => ?_) (fun Γ hΓ => ?_))
  · obtain ⟨sl, rfl⟩ := hΓ
    obtain ⟨hi, rfl⟩ := rangeD_get hd
    refine ⟨.c, _, .inl rfl, by walk_at "mPut", ?_⟩
    have h1 : signsL[Int.toNat ((c / 12 + 7 * (i : Int)) * 48271 % 65537 / 5 % 94)]? = some (nmS c i) := signsL_at (by omega)
    have hl := signsL_len
    walk_at "m"
    exact ⟨_, by rw [List.range_succ, List.map_append]; rfl⟩
  · obtain ⟨sl, rfl⟩ := hΓ
    rw [rangeD_length]
    walk_at "m"
    exact Ends.str (by unfold nameBy; rw [if_neg h3])
end
theorem sl2 : (Str.ofString "/~").cps.toList = [47, 126] := by decide +kernel
theorem shareL_len {nm : List Nat} {c : Int} : (shareL nm c).length ≤ 3 * nm.length + 4 := by
  unfold shareL
  split
  · simp; omega
  · have := partL_len nm (c / 2); simp; omega
theorem cellP_len {names : List (List Nat)} {c : Int} (h : ∀ x ∈ names, x.length ≤ 300) : (cellP names c).1.length ≤ 904 := by
  unfold cellP
  split
  · split <;> simp
  split
  · simp
  split
  · have h2 := shareL_len (nm := names.getD (c / 8 % names.length).toNat []) (c := c / 8 / 5 % 128)
    have h3 : (names.getD (c / 8 % names.length).toNat []).length ≤ 300 := by
      unfold List.getD
      cases hq : names[(c / 8 % names.length).toNat]? with
      | none => simp
      | some x => exact h x (List.mem_of_getElem? hq)
    show (shareL _ _).length ≤ _
    omega
  · have h1 := nameBy_len (c / 8)
    have h2 := partL_len (nameBy (c / 8)) (c / 8 / 3 % 4096)
    show (partL _ _).length ≤ _
    omega
theorem pth_sum {names : List (List Nat)} {cs : List Int} (h : ∀ x ∈ names, x.length ≤ 300) (hc : cs.length ≤ 100) : ((pthParts names cs).map (·.length)).sum + (pthParts names cs).length ≤ 100000 := by
  have h1 := sum_le (B := 904) (pthParts names cs) (fun x hx => by
    obtain ⟨c, _, rfl⟩ := List.mem_map.mp hx
    exact cellP_len h)
  have h2 : (pthParts names cs).length = cs.length := by simp [pthParts]
  rw [h2] at h1 ⊢
  omega
theorem pthP_snoc {names : List (List Nat)} {cs : List Int} {i : Nat} {c : Int} (h : cs[i]? = some c) : PL (pthParts names (cs.take (i + 1))) = PL (pthParts names (cs.take i)) ++ [.str (mkS (cellP names c).1)] := by
  rw [List.take_succ, h]; simp [pthParts]
theorem pthS_snoc {names : List (List Nat)} {cs : List Int} {i : Nat} {c : Int} (h : cs[i]? = some c) : (pthSteps names (cs.take (i + 1))).map stD = (pthSteps names (cs.take i)).map stD ++ (cellP names c).2.map stD := by
  rw [List.take_succ, h]; simp [pthSteps]
theorem pthS_len {names : List (List Nat)} (cs : List Int) : (pthSteps names cs).length ≤ cs.length := by
  unfold pthSteps
  induction cs with
  | nil => simp
  | cons c cs ih =>
    have : (cellP names c).2.length ≤ 1 := by
      unfold cellP
      split
      · simp
      split
      · simp
      split <;> simp
    rw [List.flatMap_cons, List.length_append, List.length_cons]
    omega
local macro_rules | `(tactic| walk_at "mC") => `(tactic| exact law_escape_spec (by assumption) (by assumption))
local macro_rules | `(tactic| walk_at "mC") => `(tactic| exact law_name_by_spec (by assumption))
local macro_rules | `(tactic| walk_at "mC") => `(tactic| (with_reducible assumption))
section
variable {T : St} (G : GK T)
include G
theorem law_part_by_spec {nm : List Nat} {cell : Int} (hs : ∀ c ∈ nm, IsSgn c) (hz : nm.length ≤ 1000) : Fun T 3 "_law_part_by" [.d (.str (mkS nm)), .d (.int cell)] (.str (mkS (partL nm cell))) := by
  refine Fun.defK G ["_law_name", "_law_cell"] ["_law_found", "_law_k"] (by k_is) (by k_is) (by k_is) (by walk_at "mBinds") (by walk_at "mPrm") (by rfl) (by rfl) ⟨rfl, rfl, rfl⟩ (fun env he => ?_)
  walk_at "mDef"
  refine Ex.cons (Ex1.assign (d := .str (mkS [])) (by rw [← s6]; walk_at "m") (by walk_at "mPut") (by walk_at "mLoc") (by walk_at "mR") (show Ex _ _ _ _ _ _ from ?_))
  refine Ex.cons (Ex1.forI (items := rangeD (nm.length : Int).toNat) (fl := .c) (by walk_at "mItr") (by simp) (by walk_at "mLoc")
    (fun i Γ => ∃ sl, Γ = ([("_law_name", some (.d (.str (mkS nm)), .c)), ("_law_cell", some (.d (.int (cel cell i)), .c)), ("_law_found", some (.d (.str (mkS (partTo nm cell i))), .c)), ("_law_k", sl)] : Gm)) ⟨_, rfl⟩ (fun i d Γ hd hΓ => ?_) (fun Γ hΓ => ?_))
  · obtain ⟨sl, rfl⟩ := hΓ
    obtain ⟨hi, rfl⟩ := rangeD_get hd
    rw [Int.toNat_natCast] at hi
    refine ⟨.c, _, .inl rfl, by walk_at "mPut", ?_⟩
    have h1 : nm[Int.toNat (i : Int)]? = some (nm.getD i 0) := by simp [List.getD, hi]
    have h2 : nm[Int.toNat 0]? = some (nm.getD 0 0) := by simp [List.getD, show 0 < nm.length by omega]
    have hsg : IsSgn (nm.getD i 0) := hs _ (by simp [List.getD, hi])
    have hl := partTo_len nm cell i
    have hp := pcG_len nm cell i
    refine Ex.cons (Ex1.mono (Q := fun f Γ => f = .next ∧ ∃ sl, Γ = ([("_law_name", some (.d (.str (mkS nm)), .c)), ("_law_cell", some (.d (.int (cel cell i)), .c)), ("_law_found", some (.d (.str (mkS (partTo nm cell (i + 1)))), .c)), ("_law_k", sl)] : Gm)) (Ex1.ite (b := mstG nm cell i) ?_ (fun hm => ?_) (fun hm => ?_)) ?_)
    · have e : mstG nm cell i = (decide (nm.getD i 0 ∈ (Str.ofString "/~").cps.toList) || ((((i : Int) == 0) && (decide ([nm.getD 0 0] = (Str.ofString "@").cps.toList) && true)) || ((cel cell i % 2 == 1) || false))) := by
        have e0 : ((i : Int) == 0) = decide (i = 0) := by rw [Bool.eq_iff_iff]; simp
        rw [sl2, s3, e0]
        unfold mstG
        simp
      rw [e]
      walk_at "m"
    · have hpc : pcG nm cell i = escG (nm.getD i 0) := if_pos hm
      rw [hpc] at hp
      walk_at "m"
      exact ⟨rfl, _, by rw [partTo_succ, hpc]⟩
    · have hpc : pcG nm cell i = [nm.getD i 0] := if_neg (by simp [hm])
      walk_at "m"
      exact ⟨rfl, _, by rw [partTo_succ, hpc]⟩
    rintro f Γ ⟨rfl, sl, rfl⟩
    walk_at "mThn"
    walk_at "m"
    exact ⟨_, rfl⟩
  · obtain ⟨sl, rfl⟩ := hΓ
    rw [rangeD_length, Int.toNat_natCast]
    walk_at "mThn"
    have hl := partTo_len nm cell nm.length
    have hp0 : part0 nm cell = partTo nm cell nm.length := rfl
    rw [← hp0] at hl ⊢
    have hesc : Fun T 2 "_law_escape" [.d (.str (mkS (Str.ofString ".").cps.toList))] (.str (mkS (escG 46))) := by rw [s4]; exact law_escape_spec G sgn46
    have hpL : partL nm cell = if part0 nm cell = [46] ∨ part0 nm cell = [46, 46] then escG 46 ++ (part0 nm cell).drop 1 else part0 nm cell := rfl
    generalize part0 nm cell = pp at hl hpL ⊢
    refine Ex.cons (Ex1.mono (Q := fun f Γ => f = .next ∧ ∃ c, Γ = ([("_law_name", some (.d (.str (mkS nm)), .c)), ("_law_cell", c), ("_law_found", some (.d (.str (mkS (partL nm cell))), .c)), ("_law_k", sl)] : Gm)) (Ex1.ite (b := (decide (pp = [46]) || (decide (pp = [46, 46]) || false))) ?_ (fun hm => ?_) (fun hm => ?_)) ?_)
    · rw [← s5, ← s4]
      walk_at "m"
    · have hm' : pp = [46] ∨ pp = [46, 46] := by simpa using hm
      rw [if_pos hm'] at hpL
      have hcut : pyCut (some 1) none pp = pp.drop 1 := by rw [pyCut_from _ _ (by omega)]; rfl
      have hcl := pyCut_le (some 1) none pp
      have hel : (escG 46).length = 3 := rfl
      walk_at "m"
      exact ⟨rfl, _, by rw [hpL, hcut]⟩
    · have hm' : ¬ (pp = [46] ∨ pp = [46, 46]) := by simpa using hm
      rw [if_neg hm'] at hpL
      refine Ex.nil ⟨rfl, _, by rw [hpL]⟩
    rintro f Γ ⟨rfl, c, rfl⟩
    walk_at "mThn"
    walk_at "m"
    exact Ends.str rfl
theorem law_share_by_spec {nm : List Nat} {cell : Int} (hs : ∀ c ∈ nm, IsSgn c) (hz : nm.length ≤ 1000) : Fun T 4 "_law_share_by" [.d (.str (mkS nm)), .d (.int cell)] (.str (mkS (shareL nm cell))) := by
  refine Fun.defK G ["_law_name", "_law_cell"] [] (by k_is) (by k_is) (by k_is) (by walk_at "mBinds") (by walk_at "mPrm") (by rfl) (by rfl) ⟨rfl, rfl, rfl⟩ (fun env he => ?_)
  walk_at "mDef"
  have hpb := law_part_by_spec G (cell := cell / 2) hs hz
  have hpl := partL_len nm (cell / 2)
  refine Ex.cons (Ex1.ite (b := ((cell % 2 == 1) && (!decide (47 ∈ nm) && (!decide (126 ∈ nm) && true)))) ?_ (fun h => ?_) (fun h => ?_))
  · refine IsT.and (by walk_at "m") (fun _ => IsT.and (IsT.cmp (v₁ := .d (.str (mkS [47]))) (Ev.ofF (EvF.cast EvF.kS (by rw [s2]))) (Ev.name (by walk_at "mMem")) (Cmp.ninL rfl) (by walk_at "mR")) (fun _ => IsT.and (IsT.cmp (v₁ := .d (.str (mkS [126]))) (Ev.ofF (EvF.cast EvF.kS (by rw [s1]))) (Ev.name (by walk_at "mMem")) (Cmp.ninL rfl) (by walk_at "mR")) (fun _ => IsT.andNil)))
  · have h' : cell % 2 = 1 ∧ 47 ∉ nm ∧ 126 ∉ nm := by simpa using h
    walk_at "m"
    · rw [s3, sizeLine_is]; simp; omega
    · exact Ends.str (by rw [s3]; unfold shareL; rw [if_pos h']; rfl)
  · have h' : ¬ (cell % 2 = 1 ∧ 47 ∉ nm ∧ 126 ∉ nm) := by
      intro q
      have : ((cell % 2 == 1) && (!decide (47 ∈ nm) && (!decide (126 ∈ nm) && true))) = true := by simp [q.1, q.2.1, q.2.2]
      rw [this] at h; cases h
    walk_at "m"
    · rw [s3, sizeLine_is]; simp; omega
    · exact Ends.str (by rw [s3]; unfold shareL; rw [if_neg h']; rfl)
theorem law_path_by_spec {names : List (List Nat)} {cs : List Int} (hs : ∀ x ∈ names, ∀ y ∈ x, IsSgn y) (hn : ∀ x ∈ names, x.length ≤ 300) (hnl : names.length ≤ 100) (hc : cs.length ≤ 100) :
    Fun T 5 "_law_path_by" [.d (.list (cs.map .int)), .d (.list (PL names))] (.tuple [.str (mkS (pthLine names cs)), .list ((rootOf (pthLine names cs) ++ pthSteps names cs).map stD)]) := by
  refine Fun.defK G ["_law_cells", "_law_names"] ["_law_parts", "_law_steps", "_law_cell", "_law_kind", "_law_more", "_law_name", "_law_line"] (by k_is) (by k_is) (by k_is) (by walk_at "mBinds") (by walk_at "mPrm") (by rfl) (by rfl) ⟨rfl, rfl, rfl⟩ (fun env he => ?_)
  walk_at "mDef"
  have L1 : (PL names).length = names.length := by simp
  refine Ex.cons (Ex1.assignO (d := .list []) (EvF.listL EvL.nil (by decide)) rfl (by walk_at "mPut") (by walk_at "mLoc") (by walk_at "mR") (show Ex _ _ _ _ _ _ from ?_))
  refine Ex.cons (Ex1.assignO (d := .list []) (EvF.listL EvL.nil (by decide)) rfl (by walk_at "mPut") (by walk_at "mLoc") (by walk_at "mR") (show Ex _ _ _ _ _ _ from ?_))
  refine Ex.cons (Ex1.forI (items := cs.map .int) (fl := .b) (by walk_at "mItr") (by simp) (by walk_at "mLoc")
    (fun i Γ => ∃ s1 s2 s3 s4, Γ = ([("_law_cells", some (.d (.list (cs.map .int)), .b)), ("_law_names", some (.d (.list (PL names)), .b)), ("_law_parts", some (.d (.list (PL (pthParts names (cs.take i)))), .o)), ("_law_steps", some (.d (.list ((pthSteps names (cs.take i)).map stD)), .o)), ("_law_cell", s1), ("_law_kind", s2), ("_law_more", s3), ("_law_name", s4), ("_law_line", none)] : Gm)) ⟨_, _, _, _, rfl⟩ (fun i d Γ hd hΓ => ?_) (fun Γ hΓ => ?_))
  · obtain ⟨t1, t2, t3, t4, rfl⟩ := hΓ
    obtain ⟨c, hci, rfl⟩ : ∃ c, cs[i]? = some c ∧ d = .int c := by
      rw [List.getElem?_map] at hd
      obtain ⟨p, h1, h2⟩ := Option.map_eq_some_iff.mp hd
      exact ⟨p, h1, h2.symm⟩
    refine ⟨.c, _, .inr ⟨rfl, rfl⟩, by walk_at "mPut", ?_⟩
    have hi : i < cs.length := (List.getElem?_eq_some_iff.mp hci).1
    have hP := pthP_snoc (names := names) hci
    have hS := pthS_snoc (names := names) hci
    have hcl := cellP_len (c := c) hn
    have l1 : (PL (pthParts names (cs.take i))).length ≤ sizeLine := by rw [sizeLine_is]; simp [pthParts]; omega
    have l2 : ((pthSteps names (cs.take i)).map stD).length ≤ sizeLine := by
      have := pthS_len (names := names) (cs.take i)
      rw [List.length_take] at this
      rw [List.length_map, sizeLine_is]; omega
    refine Ex.cons (Ex1.assign (d := .int (c % 8)) (by walk_at "m") (by walk_at "mPut") (by walk_at "mLoc") (by walk_at "mR") (show Ex _ _ _ _ _ _ from ?_))
    refine Ex.cons (Ex1.assign (d := .int (c / 8)) (by walk_at "m") (by walk_at "mPut") (by walk_at "mLoc") (by walk_at "mR") (show Ex _ _ _ _ _ _ from ?_))
    have fin : ∀ {s4 : Slot} {x y : List PyData}, x = PL (pthParts names (cs.take (i + 1))) → y = (pthSteps names (cs.take (i + 1))).map stD → ∃ (s1 s2 s3 s4' : Slot), ([("_law_cells", some (.d (.list (cs.map .int)), .b)), ("_law_names", some (.d (.list (PL names)), .b)), ("_law_parts", some (.d (.list x), .o)), ("_law_steps", some (.d (.list y), .o)), ("_law_cell", some (.d (.int c), .c)), ("_law_kind", some (.d (.int (c % 8)), .c)), ("_law_more", some (.d (.int (c / 8)), .c)), ("_law_name", s4), ("_law_line", none)] : Gm) = ([("_law_cells", some (.d (.list (cs.map .int)), .b)), ("_law_names", some (.d (.list (PL names)), .b)), ("_law_parts", some (.d (.list (PL (pthParts names (cs.take (i + 1))))), .o)), ("_law_steps", some (.d (.list ((pthSteps names (cs.take (i + 1))).map stD)), .o)), ("_law_cell", s1), ("_law_kind", s2), ("_law_more", s3), ("_law_name", s4'), ("_law_line", none)] : Gm) := fun e1 e2 => by subst e1; subst e2; exact ⟨_, _, _, _, rfl⟩
    refine Ex.cons (Ex1.ite (b := decide (c % 8 < 2)) (by walk_at "m") (fun h => ?_) (fun h => ?_))
    · have h' := of_decide_eq_true h
      have e1 : (cellP names c).1 = if c % 8 = 0 then [] else [46] := by unfold cellP; rw [if_pos h']
      have e2 : (cellP names c).2 = [] := by unfold cellP; rw [if_pos h']
      have hit : [PyData.str (mkS (Str.ofString "").cps.toList), .str (mkS (Str.ofString ".").cps.toList)][Int.toNat (c % 8)]? = some (.str (mkS (cellP names c).1)) := by
        rw [e1, s6, s4]
        by_cases h0 : c % 8 = 0
        · rw [h0]; rfl
        · have : c % 8 = 1 := by omega
          rw [this]; rfl
      refine Ex.cons (Ex1.append (d := .str (mkS (cellP names c).1)) (by walk_at "mMem") ?_ (by walk_at "mPut") l1 (by walk_at "mR") (by walk_at "mR") (by walk_at "mR") (by walk_at "mR") ?_)
      · walk_at "m"
      · refine (show Ex _ _ _ _ _ _ from Ex.nil ?_)
        refine (show Ex _ _ _ _ _ _ from Ex.nil ?_)
        exact fin hP.symm (by rw [hS, e2]; simp)
    refine Ex.cons (Ex1.ite (b := decide (c % 8 < 4)) (by walk_at "m") (fun h4 => ?_) (fun h4 => ?_))
    · have h' := of_decide_eq_false h
      have h4' := of_decide_eq_true h4
      have e1 : (cellP names c).1 = [46, 46] := by unfold cellP; rw [if_neg h', if_pos h4']
      have e2 : (cellP names c).2 = [.up] := by unfold cellP; rw [if_neg h', if_pos h4']
      refine Ex.cons (Ex1.append (d := .str (mkS (cellP names c).1)) (by walk_at "mMem") (Ev.ofF ?_) (by walk_at "mPut") l1 (by walk_at "mR") (by walk_at "mR") (by walk_at "mR") (by walk_at "mR") ?_)
      · rw [e1, ← s5]; walk_at "m"
      refine (show Ex _ _ _ _ _ _ from ?_)
      refine Ex.cons (Ex1.append (d := stD .up) (by walk_at "mMem") (Ev.ofF ?_) (by walk_at "mPut") l2 (by walk_at "mR") (by walk_at "mR") (by walk_at "mR") (by walk_at "mR") ?_)
      · show EvF _ _ _ _ _ (.tuple [.str (mkS (Str.ofString "up").cps.toList)])
        walk_at "m"
      · refine (show Ex _ _ _ _ _ _ from Ex.nil ?_)
        refine (show Ex _ _ _ _ _ _ from Ex.nil ?_)
        refine (show Ex _ _ _ _ _ _ from Ex.nil ?_)
        exact fin hP.symm (by rw [hS, e2]; rfl)
    have h' := of_decide_eq_false h
    have h4' := of_decide_eq_false h4
    refine Ex.cons (Ex1.ite (b := ((c % 8 == 4) && (decide (((PL names).length : Int) > 0) && true))) (by walk_at "m") (fun h5 => ?_) (fun h5 => ?_))
    · have h5' : c % 8 = 4 ∧ 0 < names.length := by simpa using h5
      have hl0 : (0 : Int) < ((PL names).length : Int) := by rw [L1]; omega
      have e : cellP names c = (shareL (names.getD (c / 8 % names.length).toNat []) (c / 8 / 5 % 128), [.sh (names.getD (c / 8 % names.length).toNat [])]) := by
        unfold cellP; rw [if_neg h', if_neg h4', if_pos h5']
      have hlt : (c / 8 % ((PL names).length : Int)).toNat < names.length := by
        have h1 := Int.emod_nonneg (c / 8) (b := ((PL names).length : Int)) (by omega)
        have h2 := Int.emod_lt_of_pos (c / 8) (b := ((PL names).length : Int)) (by omega)
        omega
      have hit : (PL names)[Int.toNat (c / 8 % ((PL names).length : Int))]? = some (.str (mkS (names.getD (c / 8 % names.length).toNat []))) := by
        rw [List.getElem?_map]
        rw [L1] at hlt ⊢
        simp [List.getD, hlt]
      have hmem : names.getD (c / 8 % names.length).toNat [] ∈ names := by
        rw [L1] at hlt
        simp [List.getD, hlt]
      rw [e] at hP hS hcl
      have h0 := Int.emod_nonneg (c / 8) (b := ((PL names).length : Int)) (by omega)
      have h1 := Int.emod_lt_of_pos (c / 8) (b := ((PL names).length : Int)) (by omega)
      generalize names.getD (c / 8 % names.length).toNat [] = x at hit hmem hP hS hcl
      have hxs := hs x hmem
      have hxl := hn x hmem
      have hsb := law_share_by_spec G (nm := x) (cell := c / 8 / 5 % 128) hxs (by omega)
      refine Ex.cons (Ex1.assign (d := .str (mkS x)) (by walk_at "m") (by walk_at "mPut") (by walk_at "mLoc") (by walk_at "mR") (show Ex _ _ _ _ _ _ from ?_))
      refine Ex.cons (Ex1.append (d := .str (mkS (shareL x (c / 8 / 5 % 128)))) (by walk_at "mMem") (Ev.ofF ?_) (by walk_at "mPut") l1 (by walk_at "mR") (by walk_at "mR") (by walk_at "mR") (by walk_at "mR") ?_)
      · walk_at "m"
      refine (show Ex _ _ _ _ _ _ from ?_)
      refine Ex.cons (Ex1.append (d := stD (.sh x)) (by walk_at "mMem") (Ev.ofF ?_) (by walk_at "mPut") l2 (by walk_at "mR") (by walk_at "mR") (by walk_at "mR") (by walk_at "mR") ?_)
      · show EvF _ _ _ _ _ (.tuple [.str (mkS (Str.ofString "share").cps.toList), .str (mkS x)])
        walk_at "m"
      · refine (show Ex _ _ _ _ _ _ from Ex.nil ?_)
        refine (show Ex _ _ _ _ _ _ from Ex.nil ?_)
        refine (show Ex _ _ _ _ _ _ from Ex.nil ?_)
        refine (show Ex _ _ _ _ _ _ from Ex.nil ?_)
        exact fin hP.symm hS.symm
    · have h5' : ¬ (c % 8 = 4 ∧ 0 < names.length) := by
        intro q
        have : ((c % 8 == 4) && (decide (((PL names).length : Int) > 0) && true)) = true := by rw [L1]; simp [q.1]; omega
        rw [this] at h5; cases h5
      have e : cellP names c = (partL (nameBy (c / 8)) (c / 8 / 3 % 4096), [.nm (nameBy (c / 8))]) := by
        unfold cellP; rw [if_neg h', if_neg h4', if_neg h5']
      rw [e] at hP hS hcl
      have hxs := nameBy_sgn (c / 8)
      have hxl := nameBy_len (c / 8)
      have hnb := law_name_by_spec G (c := c / 8)
      generalize nameBy (c / 8) = x at hP hS hcl hxs hxl hnb
      have hsb := law_part_by_spec G (nm := x) (cell := c / 8 / 3 % 4096) hxs (by omega)
      refine Ex.cons (Ex1.assign (d := .str (mkS x)) (by walk_at "m") (by walk_at "mPut") (by walk_at "mLoc") (by walk_at "mR") (show Ex _ _ _ _ _ _ from ?_))
      refine Ex.cons (Ex1.append (d := .str (mkS (partL x (c / 8 / 3 % 4096)))) (by walk_at "mMem") (Ev.ofF ?_) (by walk_at "mPut") l1 (by walk_at "mR") (by walk_at "mR") (by walk_at "mR") (by walk_at "mR") ?_)
      · walk_at "m"
      refine (show Ex _ _ _ _ _ _ from ?_)
      refine Ex.cons (Ex1.append (d := stD (.nm x)) (by walk_at "mMem") (Ev.ofF ?_) (by walk_at "mPut") l2 (by walk_at "mR") (by walk_at "mR") (by walk_at "mR") (by walk_at "mR") ?_)
      · show EvF _ _ _ _ _ (.tuple [.str (mkS (Str.ofString "name").cps.toList), .str (mkS x)])
        walk_at "m"
      · refine (show Ex _ _ _ _ _ _ from Ex.nil ?_)
        refine (show Ex _ _ _ _ _ _ from Ex.nil ?_)
        refine (show Ex _ _ _ _ _ _ from Ex.nil ?_)
        refine (show Ex _ _ _ _ _ _ from Ex.nil ?_)
        exact fin hP.symm hS.symm
  · obtain ⟨t1, t2, t3, t4, rfl⟩ := hΓ
    rw [List.length_map, List.take_length]
    walk_at "mThn"
    have hsum := pth_sum (cs := cs) hn hc
    have hil := icat_len (pthParts names cs)
    have hstl := pthS_len (names := names) cs
    have hpl : pthLine names cs = List.intercalate [47] (pthParts names cs) := rfl
    refine Ex.cons (Ex1.assign (d := .str (mkS (pthLine names cs))) ?_ (by walk_at "mPut") (by walk_at "mLoc") (by walk_at "mR") (show Ex _ _ _ _ _ _ from ?_))
    · rw [hpl, ← s2]
      walk_at "m"
      rw [s2]; simp only [List.length_singleton, Nat.mul_one]; omega
    rw [← hpl] at hil
    generalize pthLine names cs = line at hil ⊢
    generalize (Vl.d (PyData.list (PL (pthParts names cs))), Fl.o) = pts
    refine Ex.cons (Ex1.mono (Q := fun f Γ => f = .next ∧ Γ = ([("_law_cells", some (.d (.list (cs.map .int)), .b)), ("_law_names", some (.d (.list (PL names)), .b)), ("_law_parts", some pts), ("_law_steps", some (.d (.list ((rootOf line ++ pthSteps names cs).map stD)), .c)), ("_law_cell", t1), ("_law_kind", t2), ("_law_more", t3), ("_law_name", t4), ("_law_line", some (.d (.str (mkS line)), .c))] : Gm)) (Ex1.ite (b := decide (line.take 1 = [47])) ?_ (fun h => ?_) (fun h => ?_)) ?_)
    · rw [← s2, ← cut_head]
      walk_at "m"
    · have h' := of_decide_eq_true h
      have hr : rootOf line = [.root] := by
        unfold rootOf
        cases line with
        | nil => cases h'
        | cons x r => simp at h'; subst h'; rfl
      refine Ex.cons (Ex1.assign (d := .list ([.tuple [.str (mkS (Str.ofString "root").cps.toList)]] ++ (pthSteps names cs).map stD)) ?_ (by walk_at "mPut") (by walk_at "mLoc") (by walk_at "mR") (show Ex _ _ _ _ _ _ from ?_))
      · refine EvF.bin (f₁ := .c) (f₂ := .o) (Ev.ofF ?_) (Ev.name (by walk_at "mMem")) (Bin.catL (by rw [List.length_map, sizeLine_is]; simp; omega) (.inl rfl) (.inr (still_sts _)))
        walk_at "m"
      · refine Ex.nil ⟨rfl, ?_⟩
        rw [hr]; rfl
    · have h' := of_decide_eq_false h
      have hr : rootOf line = [] := by
        unfold rootOf
        rw [if_neg]
        intro q
        cases line with
        | nil => cases q
        | cons x r => simp at q; subst q; exact h' rfl
      refine Ex.freeze (x := "_law_steps") (by walk_at "mMem") (by walk_at "mPut") (Ex.nil ⟨rfl, ?_⟩)
      rw [hr, List.nil_append]
    rintro f Γ ⟨rfl, rfl⟩
    walk_at "mThn"
    walk_at "m"
    rfl
end
def nbF : PyData → PyData
  | .int c => .str (mkS (nameBy c))
  | d => d
def farF (ns : List Int) (start : Nat) : PyData → PyData
  | .int k => .int (ns.getD start 0 + 13 * k * k)
  | d => d
def nearF (ns : List Int) (start : Nat) : PyData → PyData
  | .int k => .int (ns.getD ((start : Int) + k).toNat 0)
  | d => d
theorem map_all' {α : Type} (f : α → PyData) (xs : List α) (g : PyData → PyData) : List.map g (List.filter (fun _ => true) (xs.map f)) = xs.map fun x => g (f x) := by
  rw [List.filter_eq_self.mpr (fun _ _ => rfl), List.map_map]; rfl
local macro_rules | `(tactic| walk_at "mC") => `(tactic| exact law_name_by_spec (by assumption))
section
variable {T : St} (G : GK T)
include G
theorem law_place_by_spec {cells : List Int} (hz : cells.length ≤ 100000) : Fun T 3 "_law_place_by" [.d (.list (cells.map .int))] (.list (PL (cells.map nameBy))) := by
  refine Fun.defK G ["_law_cells"] [] (by k_is) (by k_is) (by k_is) (by walk_at "mBinds") (by walk_at "mPrm") (by rfl) (by rfl) ⟨rfl, rfl, rfl⟩ (fun env he => ?_)
  walk_at "mDef"
  refine Ex.cons (Ex1.ret (d := .list (PL (cells.map nameBy))) (EvF.cast (EvF.comp (Γv := []) (p := fun _ => true) (f := nbF) (items := cells.map .int) (fl := .b) (by walk_at "mItr") ?_ ?_ ?_ ?_ ?_ ?_) (congrArg PyData.list ?_)) rfl)
  · exact okComp_ok he rfl rfl
  · intro q hq; cases hq
  · exact okNames_ok rfl
  · rw [List.length_map, sizeLine_is]; omega
  · exact fun _ _ _ _ => rfl
  · intro C cl d hd _
    obtain ⟨c, hc, rfl⟩ := List.mem_map.mp hd
    show EvF _ _ _ [("_law_cell", some (.d (.int c), .c))] _ (.str (mkS (nameBy c)))
    walk_at "m"
  · rw [map_all']; simp [nbF]
end
theorem fold_snoc {P : List Nat → List (List Nat)} {ss : List Stp} {i : Nat} {s : Stp} {p : List (List Nat)} (h : ss[i]? = some s) : (ss.take (i + 1)).foldl (go P) p = go P ((ss.take i).foldl (go P) p) s := by
  rw [List.take_succ, h]; simp
theorem fold_lenB (P : List Nat → List (List Nat)) (B : Nat) : ∀ (ss : List Stp) (p : List (List Nat)), (∀ y, .sh y ∈ ss → (P y).length ≤ B) → ∀ k, p.length ≤ B + k → (ss.foldl (go P) p).length ≤ B + k + ss.length
  | [], p, _, k, hp => hp
  | s :: ss, p, h, k, hp => by
    have h1 : (go P p s).length ≤ B + (k + 1) := by
      cases s with
      | root => simp [go]
      | up => simp only [go, List.length_dropLast]; omega
      | sh y => have := h y (.head _); simp only [go]; omega
      | nm y => simp only [go, List.length_append, List.length_singleton]; omega
    have := fold_lenB P B ss (go P p s) (fun y hy => h y (.tail _ hy)) (k + 1) h1
    rw [List.foldl_cons, List.length_cons]; omega
def lacks (m : List (List Nat × PyData)) : Stp → Bool
  | .sh x => !(m.lookup x).isSome
  | _ => false
def plD (pm : PM) : List (List Nat × PyData) := pm.map fun q => (q.1, .list (PL q.2))
theorem plD_keys (pm : PM) : (plD pm).map (·.1) = pm.map (·.1) := by unfold plD; rw [List.map_map]; rfl
theorem lookup_map {α β : Type} (f : α → β) : ∀ (l : List (List Nat × α)) (y : List Nat), (l.map fun q => (q.1, f q.2)).lookup y = (l.lookup y).map f
  | [], _ => rfl
  | p :: l, y => by
    rw [List.map_cons, List.lookup_cons, show p = (p.1, p.2) from rfl, List.lookup_cons, lookup_map f l y]
    cases y == p.1 <;> rfl
theorem plD_look (pm : PM) (y : List Nat) : (plD pm).lookup y = (pm.lookup y).map fun p => .list (PL p) := lookup_map (fun p => PyData.list (PL p)) pm y
local macro_rules | `(tactic| walk_at "mC") => `(tactic| (with_reducible assumption))
section
variable {T : St} (G : GK T)
include G
theorem followed_spec {pm : PM} {p : List (List Nat)} {ss : List Stp} (hnd : (pm.map (·.1)).Nodup) (hsh : ready pm ss = true) (hB : ∀ y q, (y, q) ∈ pm → q.length ≤ 100000) (hp : p.length ≤ 100000) (hs : ss.length ≤ 100000) :
    Fun T 1 "followed" [.d (.list (PL p)), .d (.list (ss.map stD)), .d (dictD (plD pm))] (.list (PL (ss.foldl (go (PMf pm)) p))) := by
  refine Fun.defK G ["start", "steps", "places"] ["here", "step"] (by k_is) (by k_is) (by k_is) (by walk_at "mBinds") (Prm.b (Prm.b (Prm.b Prm.nil))) (by rfl) (by rfl) ⟨rfl, rfl, rfl⟩ (fun env he => ?_)
  walk_at "mDef"
  refine Ex.cons (Ex1.assignO (d := .list (PL p)) (by walk_at "m") rfl (by walk_at "mPut") (by walk_at "mLoc") (by walk_at "mR") (show Ex _ _ _ _ _ _ from ?_))
  refine Ex.cons (Ex1.forI (items := ss.map stD) (fl := .b) (by walk_at "mItr") (by simp) (by walk_at "mLoc")
    (fun i Γ => ∃ sl, Γ = ([("start", some (.d (.list (PL p)), .b)), ("steps", some (.d (.list (ss.map stD)), .b)), ("places", some (.d (dictD (plD pm)), .b)), ("here", some (.d (.list (PL ((ss.take i).foldl (go (PMf pm)) p))), .o)), ("step", sl)] : Gm)) ⟨_, rfl⟩ (fun i d Γ hd hΓ => ?_) (fun Γ hΓ => ?_))
  · obtain ⟨sl, rfl⟩ := hΓ
    obtain ⟨st, hst, rfl⟩ : ∃ st, ss[i]? = some st ∧ d = stD st := by
      rw [List.getElem?_map] at hd
      obtain ⟨p, h1, h2⟩ := Option.map_eq_some_iff.mp hd
      exact ⟨p, h1, h2.symm⟩
    refine ⟨.c, _, .inr ⟨rfl, still_st st⟩, by walk_at "mPut", ?_⟩
    have hi : i < ss.length := (List.getElem?_eq_some_iff.mp hst).1
    have hfs := fold_snoc (P := PMf pm) (p := p) hst
    have hPB : ∀ y, .sh y ∈ ss → (PMf pm y).length ≤ 100000 := fun y hy => by
      obtain ⟨q, hq⟩ := Option.isSome_iff_exists.mp (ready_sh hsh hy)
      unfold PMf; rw [hq]; exact hB y q (lookup_mem hq)
    have hfl := fold_lenB (PMf pm) 100000 (ss.take i) p (fun y hy => hPB y (List.mem_of_mem_take hy)) 0 (by omega)
    have hti : (ss.take i).length ≤ 100000 := by rw [List.length_take]; omega
    generalize (ss.take i).foldl (go (PMf pm)) p = q at hfs hfl ⊢
    have hql : (PL q).length = q.length := by simp
    have e1 : (decide (kRoot = (Str.ofString "root").cps.toList)) = true := by decide +kernel
    have e2 : (decide (kUp = (Str.ofString "root").cps.toList)) = false := by decide +kernel
    have e3 : (decide (kUp = (Str.ofString "up").cps.toList)) = true := by decide +kernel
    have e4 : (decide (kNm = (Str.ofString "root").cps.toList)) = false := by decide +kernel
    have e5 : (decide (kNm = (Str.ofString "up").cps.toList)) = false := by decide +kernel
    have e6 : (decide (kNm = (Str.ofString "share").cps.toList)) = false := by decide +kernel
    have e7 : (decide (kSh = (Str.ofString "root").cps.toList)) = false := by decide +kernel
    have e8 : (decide (kSh = (Str.ofString "up").cps.toList)) = false := by decide +kernel
    have e9 : (decide (kSh = (Str.ofString "share").cps.toList)) = true := by decide +kernel
    cases st with
    | sh x =>
      have t0 : [PyData.str (mkS kSh), PyData.str (mkS x)][Int.toNat 0]? = some (.str (mkS kSh)) := rfl
      have t1 : [PyData.str (mkS kSh), PyData.str (mkS x)][Int.toNat 1]? = some (.str (mkS x)) := rfl
      obtain ⟨pl, hpl⟩ := Option.isSome_iff_exists.mp (ready_sh hsh (List.mem_of_getElem? hst))
      have hplB := hB x pl (lookup_mem hpl)
      have hPL : (PL pl).length = pl.length := by simp
      show Ex _ _ _ [("start", _), ("steps", _), ("places", _), ("here", _), ("step", some (.d (.tuple [.str (mkS kSh), .str (mkS x)]), .c))] _ _
      refine Ex.cons (Ex1.ite (b := false) ?_ (fun h => nomatch h) (fun _ => ?_))
      · rw [← e7]
        walk_at "m"
      refine Ex.cons (Ex1.ite (b := false) ?_ (fun h => nomatch h) (fun _ => ?_))
      · rw [← e8]
        walk_at "m"
      refine Ex.cons (Ex1.ite (b := true) ?_ (fun _ => ?_) (fun h => nomatch h))
      · rw [← e9]
        walk_at "m"
      · refine Ex.cons (Ex1.assignO (d := .list (PL pl)) (EvF.callB (xs := [(.d (.list (PL pl)), .b)]) (by walk_at "mKd") (by walk_at "mR") (by walk_at "mG") (by walk_at "mB") (.inr ⟨_, rfl⟩) (EvA.cons (Ev.sub (Ev.name (by walk_at "mMem")) (Ev.sub (Ev.name (by walk_at "mMem")) (Ev.ofF EvF.kInt) (Sub.tuple (by omega) (by omega) t1) (by intro _ _; walk_at "mR")) (Sub.dict (by rw [plD_keys]; exact hnd) (by rw [plD_look, hpl]; rfl)) (by intro _ _; walk_at "mR")) EvA.nil (by walk_at "mR")) (CallB.listL (by rw [sizeLine_is]; omega) (.inr (still_PL _)))) rfl (by walk_at "mPut") (by walk_at "mLoc") (by walk_at "mR") (show Ex _ _ _ _ _ _ from ?_))
        walk_at "m"
        exact ⟨_, by rw [hfs, show go (PMf pm) q (.sh x) = pl by show (pm.lookup x).getD [] = pl; rw [hpl]; rfl]⟩
    | root =>
      have t0 : [PyData.str (mkS kRoot)][Int.toNat 0]? = some (.str (mkS kRoot)) := rfl
      refine Ex.cons (Ex1.ite (b := true) ?_ (fun _ => ?_) (fun h => nomatch h))
      · rw [← e1]
        show IsT _ _ _ [("start", _), ("steps", _), ("places", _), ("here", _), ("step", some (.d (.tuple [.str (mkS kRoot)]), .c))] _ _
        walk_at "m"
      · refine Ex.cons (Ex1.assignO (d := .list (PL [])) (EvF.listL EvL.nil (by decide)) rfl (by walk_at "mPut") (by walk_at "mLoc") (by walk_at "mR") (show Ex _ _ _ _ _ _ from ?_))
        walk_at "m"
        exact ⟨_, by rw [hfs]; rfl⟩
    | up =>
      have t0 : [PyData.str (mkS kUp)][Int.toNat 0]? = some (.str (mkS kUp)) := rfl
      show Ex _ _ _ [("start", _), ("steps", _), ("places", _), ("here", _), ("step", some (.d (.tuple [.str (mkS kUp)]), .c))] _ _
      refine Ex.cons (Ex1.ite (b := false) ?_ (fun h => nomatch h) (fun _ => ?_))
      · rw [← e2]
        walk_at "m"
      refine Ex.cons (Ex1.ite (b := true) ?_ (fun _ => ?_) (fun h => nomatch h))
      · rw [← e3]
        walk_at "m"
      · refine Ex.cons (Ex1.assignO (d := .list (PL q.dropLast)) ?_ rfl (by walk_at "mPut") (by walk_at "mLoc") (by walk_at "mR") (show Ex _ _ _ _ _ _ from ?_))
        · rw [show PL q.dropLast = pyCut none (some (-1)) (PL q) by rw [cut_last]; exact List.map_dropLast ..]
          walk_at "m"
        · walk_at "m"
          exact ⟨_, by rw [hfs]; rfl⟩
    | nm x =>
      have t0 : [PyData.str (mkS kNm), PyData.str (mkS x)][Int.toNat 0]? = some (.str (mkS kNm)) := rfl
      have t1 : [PyData.str (mkS kNm), PyData.str (mkS x)][Int.toNat 1]? = some (.str (mkS x)) := rfl
      show Ex _ _ _ [("start", _), ("steps", _), ("places", _), ("here", _), ("step", some (.d (.tuple [.str (mkS kNm), .str (mkS x)]), .c))] _ _
      refine Ex.cons (Ex1.ite (b := false) ?_ (fun h => nomatch h) (fun _ => ?_))
      · rw [← e4]
        walk_at "m"
      refine Ex.cons (Ex1.ite (b := false) ?_ (fun h => nomatch h) (fun _ => ?_))
      · rw [← e5]
        walk_at "m"
      refine Ex.cons (Ex1.ite (b := false) ?_ (fun h => nomatch h) (fun _ => ?_))
      · rw [← e6]
        walk_at "m"
      · refine Ex.cons (Ex1.assignO (d := .list (PL q ++ [.str (mkS x)])) (by walk_at "m") rfl (by walk_at "mPut") (by walk_at "mLoc") (by walk_at "mR") (show Ex _ _ _ _ _ _ from ?_))
        walk_at "m"
        exact ⟨_, by rw [hfs, show PL (go (PMf pm) q (.nm x)) = PL q ++ [.str (mkS x)] from List.map_append ..]⟩
  · obtain ⟨sl, rfl⟩ := hΓ
    rw [List.length_map, List.take_length]
    walk_at "mThn"
    exact Ex.cons (Ex1.retO (by walk_at "mMem") rfl)
theorem law_walk_spec {pm : PM} {p : List (List Nat)} {ss : List Stp} (hnd : (pm.map (·.1)).Nodup) (hsh : ready pm ss = true) (hB : ∀ y q, (y, q) ∈ pm → q.length ≤ 100000) (hp : p.length ≤ 100000) (hs : ss.length ≤ 100000) :
    Fun T 1 "_law_walk" [.d (.list (PL p)), .d (.list (ss.map stD)), .d (dictD (plD pm))] (.list (PL (ss.foldl (go (PMf pm)) p))) := by
  refine Fun.defK G ["_law_place", "_law_steps", "_law_places"] ["_law_step"] (by k_is) (by k_is) (by k_is) (by walk_at "mBinds") (Prm.b (Prm.b (Prm.b Prm.nil))) (by rfl) (by rfl) ⟨rfl, rfl, rfl⟩ (fun env he => ?_)
  walk_at "mDef"
  refine Ex.cons (Ex1.assignO (d := .list (PL p)) (by walk_at "m") rfl (by walk_at "mPut") (by walk_at "mLoc") (by walk_at "mR") (show Ex _ _ _ _ _ _ from ?_))
  refine Ex.cons (Ex1.forI (items := ss.map stD) (fl := .b) (by walk_at "mItr") (by simp) (by walk_at "mLoc")
    (fun i Γ => ∃ sl, Γ = ([("_law_place", some (.d (.list (PL ((ss.take i).foldl (go (PMf pm)) p))), .o)), ("_law_steps", some (.d (.list (ss.map stD)), .b)), ("_law_places", some (.d (dictD (plD pm)), .b)), ("_law_step", sl)] : Gm)) ⟨_, rfl⟩ (fun i d Γ hd hΓ => ?_) (fun Γ hΓ => ?_))
  · obtain ⟨sl, rfl⟩ := hΓ
    obtain ⟨st, hst, rfl⟩ : ∃ st, ss[i]? = some st ∧ d = stD st := by
      rw [List.getElem?_map] at hd
      obtain ⟨p, h1, h2⟩ := Option.map_eq_some_iff.mp hd
      exact ⟨p, h1, h2.symm⟩
    refine ⟨.c, _, .inr ⟨rfl, still_st st⟩, by walk_at "mPut", ?_⟩
    have hi : i < ss.length := (List.getElem?_eq_some_iff.mp hst).1
    have hfs := fold_snoc (P := PMf pm) (p := p) hst
    have hPB : ∀ y, .sh y ∈ ss → (PMf pm y).length ≤ 100000 := fun y hy => by
      obtain ⟨q, hq⟩ := Option.isSome_iff_exists.mp (ready_sh hsh hy)
      unfold PMf; rw [hq]; exact hB y q (lookup_mem hq)
    have hfl := fold_lenB (PMf pm) 100000 (ss.take i) p (fun y hy => hPB y (List.mem_of_mem_take hy)) 0 (by omega)
    have hti : (ss.take i).length ≤ 100000 := by rw [List.length_take]; omega
    generalize (ss.take i).foldl (go (PMf pm)) p = q at hfs hfl ⊢
    have hql : (PL q).length = q.length := by simp
    have e1 : (decide (kRoot = (Str.ofString "root").cps.toList)) = true := by decide +kernel
    have e2 : (decide (kUp = (Str.ofString "root").cps.toList)) = false := by decide +kernel
    have e3 : (decide (kUp = (Str.ofString "up").cps.toList)) = true := by decide +kernel
    have e4 : (decide (kNm = (Str.ofString "root").cps.toList)) = false := by decide +kernel
    have e5 : (decide (kNm = (Str.ofString "up").cps.toList)) = false := by decide +kernel
    have e6 : (decide (kNm = (Str.ofString "share").cps.toList)) = false := by decide +kernel
    have e7 : (decide (kSh = (Str.ofString "root").cps.toList)) = false := by decide +kernel
    have e8 : (decide (kSh = (Str.ofString "up").cps.toList)) = false := by decide +kernel
    have e9 : (decide (kSh = (Str.ofString "share").cps.toList)) = true := by decide +kernel
    cases st with
    | sh x =>
      have t0 : [PyData.str (mkS kSh), PyData.str (mkS x)][Int.toNat 0]? = some (.str (mkS kSh)) := rfl
      have t1 : [PyData.str (mkS kSh), PyData.str (mkS x)][Int.toNat 1]? = some (.str (mkS x)) := rfl
      obtain ⟨pl, hpl⟩ := Option.isSome_iff_exists.mp (ready_sh hsh (List.mem_of_getElem? hst))
      have hplB := hB x pl (lookup_mem hpl)
      have hPL : (PL pl).length = pl.length := by simp
      show Ex _ _ _ [("_law_place", _), ("_law_steps", _), ("_law_places", _), ("_law_step", some (.d (.tuple [.str (mkS kSh), .str (mkS x)]), .c))] _ _
      refine Ex.cons (Ex1.ite (b := false) ?_ (fun h => nomatch h) (fun _ => ?_))
      · rw [← e7]
        walk_at "m"
      refine Ex.cons (Ex1.ite (b := false) ?_ (fun h => nomatch h) (fun _ => ?_))
      · rw [← e8]
        walk_at "m"
      refine Ex.cons (Ex1.ite (b := true) ?_ (fun _ => ?_) (fun h => nomatch h))
      · rw [← e9]
        walk_at "m"
      · refine Ex.cons (Ex1.assignO (d := .list (PL pl)) (EvF.callB (xs := [(.d (.list (PL pl)), .b)]) (by walk_at "mKd") (by walk_at "mR") (by walk_at "mG") (by walk_at "mB") (.inr ⟨_, rfl⟩) (EvA.cons (Ev.sub (Ev.name (by walk_at "mMem")) (Ev.sub (Ev.name (by walk_at "mMem")) (Ev.ofF EvF.kInt) (Sub.tuple (by omega) (by omega) t1) (by intro _ _; walk_at "mR")) (Sub.dict (by rw [plD_keys]; exact hnd) (by rw [plD_look, hpl]; rfl)) (by intro _ _; walk_at "mR")) EvA.nil (by walk_at "mR")) (CallB.listL (by rw [sizeLine_is]; omega) (.inr (still_PL _)))) rfl (by walk_at "mPut") (by walk_at "mLoc") (by walk_at "mR") (show Ex _ _ _ _ _ _ from ?_))
        walk_at "m"
        exact ⟨_, by rw [hfs, show go (PMf pm) q (.sh x) = pl by show (pm.lookup x).getD [] = pl; rw [hpl]; rfl]⟩
    | root =>
      have t0 : [PyData.str (mkS kRoot)][Int.toNat 0]? = some (.str (mkS kRoot)) := rfl
      refine Ex.cons (Ex1.ite (b := true) ?_ (fun _ => ?_) (fun h => nomatch h))
      · rw [← e1]
        show IsT _ _ _ [("_law_place", _), ("_law_steps", _), ("_law_places", _), ("_law_step", some (.d (.tuple [.str (mkS kRoot)]), .c))] _ _
        walk_at "m"
      · refine Ex.cons (Ex1.assignO (d := .list (PL [])) (EvF.listL EvL.nil (by decide)) rfl (by walk_at "mPut") (by walk_at "mLoc") (by walk_at "mR") (show Ex _ _ _ _ _ _ from ?_))
        walk_at "m"
        exact ⟨_, by rw [hfs]; rfl⟩
    | up =>
      have t0 : [PyData.str (mkS kUp)][Int.toNat 0]? = some (.str (mkS kUp)) := rfl
      show Ex _ _ _ [("_law_place", _), ("_law_steps", _), ("_law_places", _), ("_law_step", some (.d (.tuple [.str (mkS kUp)]), .c))] _ _
      refine Ex.cons (Ex1.ite (b := false) ?_ (fun h => nomatch h) (fun _ => ?_))
      · rw [← e2]
        walk_at "m"
      refine Ex.cons (Ex1.ite (b := true) ?_ (fun _ => ?_) (fun h => nomatch h))
      · rw [← e3]
        walk_at "m"
      · refine Ex.cons (Ex1.assignO (d := .list (PL q.dropLast)) ?_ rfl (by walk_at "mPut") (by walk_at "mLoc") (by walk_at "mR") (show Ex _ _ _ _ _ _ from ?_))
        · rw [show PL q.dropLast = pyCut none (some (-1)) (PL q) by rw [cut_last]; exact List.map_dropLast ..]
          walk_at "m"
        · walk_at "m"
          exact ⟨_, by rw [hfs]; rfl⟩
    | nm x =>
      have t0 : [PyData.str (mkS kNm), PyData.str (mkS x)][Int.toNat 0]? = some (.str (mkS kNm)) := rfl
      have t1 : [PyData.str (mkS kNm), PyData.str (mkS x)][Int.toNat 1]? = some (.str (mkS x)) := rfl
      show Ex _ _ _ [("_law_place", _), ("_law_steps", _), ("_law_places", _), ("_law_step", some (.d (.tuple [.str (mkS kNm), .str (mkS x)]), .c))] _ _
      refine Ex.cons (Ex1.ite (b := false) ?_ (fun h => nomatch h) (fun _ => ?_))
      · rw [← e4]
        walk_at "m"
      refine Ex.cons (Ex1.ite (b := false) ?_ (fun h => nomatch h) (fun _ => ?_))
      · rw [← e5]
        walk_at "m"
      refine Ex.cons (Ex1.ite (b := false) ?_ (fun h => nomatch h) (fun _ => ?_))
      · rw [← e6]
        walk_at "m"
      · refine Ex.cons (Ex1.assignO (d := .list (PL q ++ [.str (mkS x)])) (by walk_at "m") rfl (by walk_at "mPut") (by walk_at "mLoc") (by walk_at "mR") (show Ex _ _ _ _ _ _ from ?_))
        walk_at "m"
        exact ⟨_, by rw [hfs, show PL (go (PMf pm) q (.nm x)) = PL q ++ [.str (mkS x)] from List.map_append ..]⟩
  · obtain ⟨sl, rfl⟩ := hΓ
    rw [List.length_map, List.take_length]
    walk_at "mThn"
    exact Ex.cons (Ex1.retO (by walk_at "mMem") rfl)
theorem ready_step {m : List (List Nat × PyData)} {env : Env} {n : Nat} {s : Stp} {Γ : Gm} {p₁ p₂ p₃ p₄ p₅ p₆ p₇ p₈ p₉ p₀ pb : Pos} {k1 k2 k3 : Nat} (hnd : (m.map (·.1)).Nodup) (hm : (("step" : Str), (some (.d (stD s), .c) : Slot)) ∈ Γ) (hp : (("places" : Str), (some (.d (dictD m), .b) : Slot)) ∈ Γ) :
    IsT T n env Γ (.BoolOp .And [.Compare (.Subscript (.Name "step" p₁) (.Constant (.int 0) k1 p₂) p₃) [.Eq] [.Constant (.str "share") k2 p₄] p₅, .Compare (.Subscript (.Name "step" p₆) (.Constant (.int 1) k3 p₇) p₈) [.NotIn] [.Name "places" p₉] p₀] pb) (lacks m s) := by
  have e9 : (decide (kSh = (Str.ofString "share").cps.toList)) = true := by decide +kernel
  have key : ∀ (k : List Nat) (its : List PyData), stD s = .tuple its → its[Int.toNat 0]? = some (.str (mkS k)) → IsT T n env Γ (.Compare (.Subscript (.Name "step" p₁) (.Constant (.int 0) k1 p₂) p₃) [.Eq] [.Constant (.str "share") k2 p₄] p₅) (decide (k = (Str.ofString "share").cps.toList)) := fun k its h1 h2 => by
    rw [h1] at hm
    exact IsT.cmp (Ev.sub (Ev.name hm) (Ev.ofF EvF.kInt) (Sub.tuple (by omega) (by omega) h2) (by intro _ _; walk_at "mR")) (Ev.ofF EvF.kS) Cmp.eqL (by walk_at "mR")
  cases s with
  | sh x =>
    have h := key kSh _ rfl rfl
    rw [e9] at h
    have e : lacks m (.sh x) = (true && (!(m.lookup x).isSome && true)) := by simp [lacks]
    rw [e]
    refine IsT.and h (fun _ => IsT.and ?_ fun _ => IsT.andNil)
    exact IsT.cmp (Ev.sub (Ev.name hm) (Ev.ofF EvF.kInt) (Sub.tuple (by omega) (by omega) rfl) (by intro _ _; walk_at "mR")) (Ev.name hp) (Cmp.ninD hnd) (by walk_at "mR")
  | root =>
    have h := key kRoot _ rfl rfl
    rw [show (decide (kRoot = (Str.ofString "share").cps.toList)) = false by decide +kernel] at h
    rw [show lacks m (Stp.root) = (false && true) from rfl]
    exact IsT.and h (fun h => nomatch h)
  | up =>
    have h := key kUp _ rfl rfl
    rw [show (decide (kUp = (Str.ofString "share").cps.toList)) = false by decide +kernel] at h
    rw [show lacks m (Stp.up) = (false && true) from rfl]
    exact IsT.and h (fun h => nomatch h)
  | nm x =>
    have h := key kNm _ rfl rfl
    rw [show (decide (kNm = (Str.ofString "share").cps.toList)) = false by decide +kernel] at h
    rw [show lacks m (Stp.nm x) = (false && true) from rfl]
    exact IsT.and h (fun h => nomatch h)
theorem need_shares_spec {ss : List Stp} {m : List (List Nat × PyData)} (hnd : (m.map (·.1)).Nodup) (hsh : ∀ y, .sh y ∈ ss → (m.lookup y).isSome = true) : Fun T 1 "need_shares" [.d (.list (ss.map stD)), .d (dictD m)] .none := by
  refine Fun.defK G ["steps", "places"] ["step"] (by k_is) (by k_is) (by k_is) (by walk_at "mBinds") (Prm.b (Prm.b Prm.nil)) (by rfl) (by rfl) ⟨rfl, rfl, rfl⟩ (fun env he => ?_)
  walk_at "mDef"
  refine Ex.cons (Ex1.forI (items := ss.map stD) (fl := .b) (by walk_at "mItr") (by simp) (by walk_at "mLoc")
    (fun i Γ => ∃ sl, Γ = ([("steps", some (.d (.list (ss.map stD)), .b)), ("places", some (.d (dictD m), .b)), ("step", sl)] : Gm)) ⟨_, rfl⟩ (fun i d Γ hd hΓ => ?_) (fun Γ hΓ => ?_))
  · obtain ⟨sl, rfl⟩ := hΓ
    obtain ⟨st, hst, rfl⟩ : ∃ st, ss[i]? = some st ∧ d = stD st := by
      rw [List.getElem?_map] at hd
      obtain ⟨p, h1, h2⟩ := Option.map_eq_some_iff.mp hd
      exact ⟨p, h1, h2.symm⟩
    refine ⟨.c, _, .inr ⟨rfl, still_st st⟩, by walk_at "mPut", ?_⟩
    refine Ex.cons (Ex1.ite (ready_step G (s := st) hnd (by walk_at "mMem") (by walk_at "mMem")) (fun h => ?_) (fun _ => ?_))
    · cases st with
      | sh x =>
        have h' : (!(m.lookup x).isSome) = true := h
        rw [hsh x (List.mem_of_getElem? hst)] at h'; cases h'
      | _ => cases h
    · refine Ex.nil (show Ex _ _ _ _ _ _ from Ex.nil ?_)
      exact ⟨_, rfl⟩
  · obtain ⟨sl, rfl⟩ := hΓ
    refine (show Ex _ _ _ _ _ _ from Ex.nil ?_)
    rfl
theorem is_ready_spec {ss : List Stp} {pm : PM} (hnd : (pm.map (·.1)).Nodup) : Fun T 1 "is_ready" [.d (.list (ss.map stD)), .d (dictD (plD pm))] (.bool (ready pm ss)) := by
  refine Fun.defK G ["steps", "places"] ["step"] (by k_is) (by k_is) (by k_is) (by walk_at "mBinds") (Prm.b (Prm.b Prm.nil)) (by rfl) (by rfl) ⟨rfl, rfl, rfl⟩ (fun env he => ?_)
  walk_at "mDef"
  refine Ex.cons (Ex1.forI (items := ss.map stD) (fl := .b) (by walk_at "mItr") (by simp) (by walk_at "mLoc")
    (fun i Γ => ready pm (ss.take i) = true ∧ ∃ sl, Γ = ([("steps", some (.d (.list (ss.map stD)), .b)), ("places", some (.d (dictD (plD pm)), .b)), ("step", sl)] : Gm)) ⟨rfl, _, rfl⟩ (fun i d Γ hd hΓ => ?_) (fun Γ hΓ => ?_))
  · obtain ⟨hr, sl, rfl⟩ := hΓ
    obtain ⟨st, hst, rfl⟩ : ∃ st, ss[i]? = some st ∧ d = stD st := by
      rw [List.getElem?_map] at hd
      obtain ⟨p, h1, h2⟩ := Option.map_eq_some_iff.mp hd
      exact ⟨p, h1, h2.symm⟩
    refine ⟨.c, _, .inr ⟨rfl, still_st st⟩, by walk_at "mPut", ?_⟩
    have hlk : ∀ x, ((plD pm).lookup x).isSome = (pm.lookup x).isSome := fun x => by rw [plD_look, Option.isSome_map]
    have hb : lacks (plD pm) st = !rdy pm st := by
      cases st with
      | sh x => show (!((plD pm).lookup x).isSome) = !(pm.lookup x).isSome; rw [hlk]
      | _ => rfl
    refine Ex.cons (Ex1.ite (ready_step G (s := st) (by rw [plD_keys]; exact hnd) (by walk_at "mMem") (by walk_at "mMem")) (fun h => ?_) (fun h => ?_))
    · rw [hb] at h
      refine Ex.cons (Ex1.ret (d := .bool false) EvF.kBool ?_)
      show PyData.bool false = PyData.bool (ready pm ss)
      congr 1
      refine (Bool.eq_false_iff.mpr fun q => ?_).symm
      have := List.all_eq_true.mp q st (List.mem_of_getElem? hst)
      rw [this] at h; cases h
    · rw [hb] at h
      refine Ex.nil (show Ex _ _ _ _ _ _ from Ex.nil ?_)
      refine ⟨?_, _, rfl⟩
      unfold ready at hr ⊢
      rw [List.take_succ, hst, List.all_append, hr]
      simpa using h
  · obtain ⟨hr, sl, rfl⟩ := hΓ
    rw [List.length_map, List.take_length] at hr
    refine (show Ex _ _ _ _ _ _ from Ex.cons (Ex1.ret (d := .bool true) EvF.kBool ?_))
    show PyData.bool true = PyData.bool (ready pm ss)
    rw [hr]
end
abbrev rowD (r : Row) : PyData := .tuple [.str (mkS r.1), .list (r.2.map stD)]
def tabD (tab : Tab) : List (List Nat × PyData) := tab.map fun q => (q.1, .str (mkS q.2))
theorem tabD_keys (tab : Tab) : (tabD tab).map (·.1) = tab.map (·.1) := by unfold tabD; rw [List.map_map]; rfl
theorem tabD_look (tab : Tab) (x : List Nat) : (tabD tab).lookup x = (tab.lookup x).map fun l => .str (mkS l) := lookup_map (fun l => PyData.str (mkS l)) tab x
abbrev shF (names : List (List Nat)) (pm : PM) : List (Str × PyData) := [("order", .list (PL names)), ("places", dictD (plD pm))]
def rowFst : PyData → PyData
  | .tuple (d :: _) => d
  | d => d
theorem rows_fst (rows : List Row) : List.map rowFst (List.filter (fun _ => true) (rows.map rowD)) = PL (rows.map (·.1)) := by
  rw [List.filter_eq_self.mpr (fun _ _ => rfl), List.map_map, PL, List.map_map]; rfl
theorem rowsOf_at {tab : Tab} {i : Nat} {q : List Nat × List Nat} (h : tab[i]? = some q) : (rowsOf (tab.take (i + 1))).map rowD = (rowsOf (tab.take i)).map rowD ++ [rowD (q.1, stepsOf q.2)] := by
  unfold rowsOf
  rw [List.take_succ, h]
  simp
local macro_rules | `(tactic| walk_at "mC") => `(tactic| (with_reducible assumption))
section
variable {T : St} (G : GK T)
include G
theorem shares_cls : ClsOk T 172 := by
  refine ⟨?_, ?_, ?_, ?_, ?_⟩ <;> rw [G.k] <;> k_is
theorem at_order {n : Nat} {env : Env} {Γ : Gm} {fl : Fl} {x : Str} {p₁ p₂ : Pos} {names : List (List Nat)} {pm : PM} (hm : (x, some (.i 172 (shF names pm), fl)) ∈ Γ) : Ev T n env Γ (.Attribute (.Name x p₁) "order" p₂) (.d (.list (PL names))) fl :=
  Ev.attr (shares_cls G) (Ev.name hm) (by rw [G.k]; k_is) rfl
theorem at_places {n : Nat} {env : Env} {Γ : Gm} {fl : Fl} {x : Str} {p₁ p₂ : Pos} {names : List (List Nat)} {pm : PM} (hm : (x, some (.i 172 (shF names pm), fl)) ∈ Γ) : Ev T n env Γ (.Attribute (.Name x p₁) "places" p₂) (.d (dictD (plD pm))) fl :=
  Ev.attr (shares_cls G) (Ev.name hm) (by rw [G.k]; k_is) rfl
theorem names_spec {names : List (List Nat)} {pm : PM} (hn : names.length ≤ 1000) : Calls T 1 155 [.i 172 (shF names pm)] (.list (PL names)) ∧ ∃ fd, FnAt T 155 fd := by
  refine Calls.defK G ["self"] [] (by k_is) (by k_is) (by walk_at "mBinds") (Prm.b Prm.nil) (by rfl) (by rfl) ⟨rfl, rfl, rfl⟩ (fun env he => ?_)
  walk_at "mDef"
  refine Ex.cons (Ex1.ret (d := .list (PL names)) ?_ rfl)
  exact EvF.callB (xs := [(.d (.list (PL names)), .b)]) (by walk_at "mKd") (by walk_at "mR") (by walk_at "mG") (by walk_at "mB") (.inr ⟨_, rfl⟩) (EvA.cons (at_order G (by walk_at "mMem")) EvA.nil (by walk_at "mR")) (CallB.listL (by rw [sizeLine_is, List.length_map]; omega) (.inr (still_PL _)))
theorem place_spec {names : List (List Nat)} {pm : PM} {x : List Nat} {p : List (List Nat)} (hnd : (pm.map (·.1)).Nodup) (hx : pm.lookup x = some p) (hp : p.length ≤ 100000) : Calls T 1 162 [.i 172 (shF names pm), .d (.str (mkS x))] (.list (PL p)) ∧ ∃ fd, FnAt T 162 fd := by
  have hnd' : ((plD pm).map (·.1)).Nodup := by rw [plD_keys]; exact hnd
  have hlk : (plD pm).lookup x = some (.list (PL p)) := by rw [plD_look, hx]; rfl
  refine Calls.defK G ["self", "name"] [] (by k_is) (by k_is) (by walk_at "mBinds") (Prm.b (Prm.c rfl Prm.nil)) (by rfl) (by rfl) ⟨rfl, rfl, rfl⟩ (fun env he => ?_)
  walk_at "mDef"
  refine Ex.cons (Ex1.ite (b := false) ?_ (fun h => nomatch h) (fun _ => ?_))
  · rw [show false = !((plD pm).lookup x).isSome by rw [hlk]; rfl]
    exact IsT.cmp (Ev.name (by walk_at "mMem")) (at_places G (by walk_at "mMem")) (Cmp.ninD hnd') (by walk_at "mR")
  refine Ex.nil (show Ex _ _ _ _ _ _ from ?_)
  refine Ex.cons (Ex1.ret (d := .list (PL p)) ?_ rfl)
  exact EvF.callB (xs := [(.d (.list (PL p)), .b)]) (by walk_at "mKd") (by walk_at "mR") (by walk_at "mG") (by walk_at "mB") (.inr ⟨_, rfl⟩) (EvA.cons (Ev.sub (at_places G (by walk_at "mMem")) (Ev.name (by walk_at "mMem")) (Sub.dict hnd' hlk) (by intro _ _; walk_at "mR")) EvA.nil (by walk_at "mR")) (CallB.listL (by rw [sizeLine_is, List.length_map]; omega) (.inr (still_PL _)))
theorem init_spec {tab : Tab} {ref : List Nat → List (List Nat)} {rk : List Nat → Nat} (hA : Acy ref rk (rowsOf tab)) (hl : ∀ x l, (x, l) ∈ tab → okLine l ∧ l.length ≤ 10000 ∧ (stepsOf l).length ≤ 1000) (hr : ∀ x ∈ tab.map (·.1), (ref x).length ≤ 10000) (ht : tab.length ≤ 1000) :
    Inits T 4 148 172 [.d (dictD (tabD tab))] (shF (tab.map (·.1)) (loopF tab.length (rowsOf tab) [])) := by
  have c := shares_cls G
  have hnd : (tab.map (·.1)).Nodup := by rw [← rowsOf_keys]; exact hA.nodup
  have hnd' : ((tabD tab).map (·.1)).Nodup := by rw [tabD_keys]; exact hnd
  have hrl : (rowsOf tab).length = tab.length := List.length_map ..
  refine Inits.defK G "self" ["table"] ["rows", "name", "row", "left"] (by k_is) (by k_is) (by walk_at "mBinds") (Prm.b Prm.nil) (by rfl) (by rfl) ⟨rfl, rfl, rfl⟩ (fun a env he => ?_)
  walk_at "mDef"
  refine Ex.cons (Ex1.assignO (d := .list []) (EvF.listL EvL.nil (by decide)) rfl (by walk_at "mPut") (by walk_at "mLoc") (by walk_at "mR") (show Ex _ _ _ _ _ _ from ?_))
  refine Ex.cons (Ex1.forI (items := (tabD tab).map fun p => .str (mkS p.1)) (fl := .b) (Itr.dict (Ev.name (by walk_at "mMem")) hnd' (by intro _; walk_at "mR")) (by simp) (by walk_at "mLoc")
    (fun i Γ => ∃ sl, Γ = ([("self", some (.i 172 [], .s (a, none))), ("table", some (.d (dictD (tabD tab)), .b)), ("rows", some (.d (.list ((rowsOf (tab.take i)).map rowD)), .o)), ("name", sl), ("row", none), ("left", none)] : Gm)) ⟨_, rfl⟩ (fun i d Γ hd hΓ => ?_) (fun Γ hΓ => ?_))
  · obtain ⟨sl, rfl⟩ := hΓ
    obtain ⟨q, hq, rfl⟩ : ∃ q, tab[i]? = some q ∧ d = .str (mkS q.1) := by
      unfold tabD at hd
      rw [List.map_map, List.getElem?_map] at hd
      obtain ⟨q, h1, h2⟩ := Option.map_eq_some_iff.mp hd
      exact ⟨q, h1, h2.symm⟩
    refine ⟨.c, _, .inr ⟨rfl, rfl⟩, by walk_at "mPut", ?_⟩
    have hqm := List.mem_of_getElem? hq
    obtain ⟨l1, l2, l3⟩ := hl q.1 q.2 hqm
    have hso := steps_of_ok G (path := q.2) (by omega) l1
    have hlk : (tabD tab).lookup q.1 = some (.str (mkS q.2)) := by rw [tabD_look, lookup_nodup hnd (a := q.2) hqm]; rfl
    refine Ex.cons (Ex1.append (d := rowD (q.1, stepsOf q.2)) (by walk_at "mMem") (Ev.ofF (EvF.tupleL (EvL.cons (Ev.name (by walk_at "mMem")) (EvL.cons (Ev.ofF (EvF.fn (xs := [(.d (.str (mkS q.2)), .b)]) (by walk_at "mKd") (by walk_at "mR") (EvA.cons (Ev.sub (Ev.name (by walk_at "mMem")) (Ev.name (by walk_at "mMem")) (Sub.dict hnd' hlk) (by intro _ _; walk_at "mR")) EvA.nil (by walk_at "mR")) hso (by omega))) EvL.nil (by walk_at "mR")) (by walk_at "mR")) (by rw [sizeLine_is]; simp))) (by walk_at "mPut") ?_ (by walk_at "mR") (by walk_at "mR") (by walk_at "mR") (by walk_at "mR") (show Ex _ _ _ _ _ _ from ?_))
    · rw [sizeLine_is, List.length_map]
      unfold rowsOf
      rw [List.length_map, List.length_take]; omega
    · exact Ex.nil ⟨_, by rw [rowsOf_at hq]⟩
  obtain ⟨sl, rfl⟩ := hΓ
  rw [show ((tabD tab).map fun p => PyData.str (mkS p.1)).length = tab.length by simp [tabD], List.take_length]
  refine (show Ex _ _ _ _ _ _ from ?_)
  refine Ex.drop (x := "name") (by walk_at "mPut") ?_
  refine Ex.freeze (x := "rows") (by walk_at "mMem") (by walk_at "mPut") ?_
  refine Ex.cons (Ex1.forI (items := (rowsOf tab).map rowD) (fl := .c) (Itr.list (Ev.name (by walk_at "mMem")) (by intro _; walk_at "mR")) (by simp) (by walk_at "mLoc")
    (fun i Γ => ∃ sl, Γ = ([("self", some (.i 172 [], .s (a, none))), ("table", some (.d (dictD (tabD tab)), .b)), ("rows", some (.d (.list ((rowsOf tab).map rowD)), .c)), ("name", none), ("row", sl), ("left", none)] : Gm)) ⟨_, rfl⟩ (fun i d Γ hd hΓ => ?_) (fun Γ hΓ => ?_))
  · obtain ⟨sl, rfl⟩ := hΓ
    obtain ⟨⟨x, ss⟩, hq, rfl⟩ : ∃ q, (rowsOf tab)[i]? = some q ∧ d = rowD q := by
      rw [List.getElem?_map] at hd
      obtain ⟨q, h1, h2⟩ := Option.map_eq_some_iff.mp hd
      exact ⟨q, h1, h2.symm⟩
    refine ⟨.c, _, .inl rfl, by walk_at "mPut", ?_⟩
    have hns := need_shares_spec G (m := tabD tab) (ss := ss) hnd' (fun y hy => by
      rw [tabD_look, Option.isSome_map]
      have := (hA.sh x ss (List.mem_of_getElem? hq) y hy).1
      rw [rowsOf_keys] at this
      exact lookup_some this)
    refine Ex.cons (Ex1.expr (d := .none) (EvF.fn (xs := [(.d (.list (ss.map stD)), .c), (_, .b)]) (by walk_at "mKd") (by walk_at "mR") (EvA.cons (Ev.sub (Ev.name (show _ ∈ _ from by walk_at "mMem")) (Ev.ofF EvF.kInt) (Sub.tuple (xs := [.str (mkS x), .list (ss.map stD)]) (by omega) (by omega) rfl) (by intro _ _; walk_at "mR")) (EvA.cons (Ev.name (by walk_at "mMem")) EvA.nil (by walk_at "mR")) (by walk_at "mR")) hns (by omega)) (by walk_at "mR") (show Ex _ _ _ _ _ _ from ?_))
    exact Ex.nil ⟨_, rfl⟩
  obtain ⟨sl, rfl⟩ := hΓ
  refine (show Ex _ _ _ _ _ _ from ?_)
  refine Ex.drop (x := "row") (by walk_at "mPut") ?_
  refine Ex.cons (Ex1.setA (o := none) (d := .list (PL (tab.map (·.1)))) c (EvF.cast (EvF.comp (Γv := []) (p := fun _ => true) (f := rowFst) (items := (rowsOf tab).map rowD) (fl := .c) (Itr.list (Ev.name (by walk_at "mMem")) (by intro _; walk_at "mR")) (okComp_ok he rfl rfl) (by intro q hq; cases hq) (okNames_ok rfl) (by rw [sizeLine_is, List.length_map]; omega) (fun _ _ _ _ => rfl) ?_) (congrArg PyData.list (by rw [rows_fst, rowsOf_keys]))) (by simp) (by walk_at "mMem") rfl (by rw [G.k]; k_is) (by simp) (by walk_at "mPut") (by walk_at "mR") (show Ex _ _ _ _ _ _ from ?_))
  · intro C cl d hd _
    obtain ⟨q, _, rfl⟩ := List.mem_map.mp hd
    exact Ev.still (Ev.sub (Ev.name List.mem_cons_self) (Ev.ofF EvF.kInt) (Sub.tuple (xs := [.str (mkS q.1), .list (q.2.map stD)]) (by omega) (by omega) rfl) (by intro _ _; walk_at "mR")) rfl
  have hgn : env.kindOf gN = none := by unfold Env.kindOf; rw [he]; rfl
  have one : ∀ (v1 v3 v4 v5 v6 : Slot) (q : Vl × Fl), (∀ v z, v1 ≠ some (v, .s z)) → (∀ v z, v3 ≠ some (v, .s z)) → (∀ v z, v4 ≠ some (v, .s z)) → (∀ v z, v5 ≠ some (v, .s z)) → (∀ v z, v6 ≠ some (v, .s z)) → ∀ y v z, (y, some (v, .s z)) ∈ ([("self", some q), ("table", v1), ("rows", v3), ("name", v4), ("row", v5), ("left", v6)] : Gm) → y = "self" := by
    intro v1 v3 v4 v5 v6 q h1 h3 h4 h5 h6 y v z h
    simp only [List.mem_cons, Prod.mk.injEq, List.not_mem_nil, or_false] at h
    rcases h with h | h | h | h | h | h
    · exact h.1
    · exact absurd h.2.symm (h1 v z)
    · exact absurd h.2.symm (h3 v z)
    · exact absurd h.2.symm (h4 v z)
    · exact absurd h.2.symm (h5 v z)
    · exact absurd h.2.symm (h6 v z)
  refine Ex.cons (Ex1.setG (d := .dict []) (o' := some "places") c EvF.dict0 (.inr ⟨rfl, rfl, rfl, hgn, one _ _ _ _ _ _ (by simp) (by simp) (by simp) (by simp) (by simp)⟩) (by walk_at "mMem") rfl (by rw [G.k]; k_is) (by simp) (by walk_at "mPut") (by walk_at "mR") (show Ex _ _ _ _ _ _ from ?_))
  refine Ex.cons (Ex1.whil (fun k Γ => ∃ rows pm, Inv ref (rowsOf tab) rows pm ∧ loopF k rows pm = loopF tab.length (rowsOf tab) [] ∧ rows.length ≤ k ∧
    Γ = ([("self", some (.i 172 (shF (tab.map (·.1)) pm), .s (a, some "places"))), ("table", some (.d (dictD (tabD tab)), .b)), ("rows", some (.d (.list (rows.map rowD)), .c)), ("name", none), ("row", none), ("left", none)] : Gm)) tab.length ⟨rowsOf tab, [], inv0 hA, rfl, by omega, rfl⟩ (fun k Γ hΓ => ?_))
  obtain ⟨rows, pm, I, hlf, hk, rfl⟩ := hΓ
  have hlen := I.len
  have hrows : (rows.map rowD).length = rows.length := List.length_map ..
  refine ⟨decide ((rows.map rowD).length > (0 : Int)), by walk_at "m", fun hb => ?_, fun hb => ?_⟩
  · have hne : rows ≠ [] := by
      rintro rfl
      simp at hb
    refine Ex.cons (Ex1.assignO (d := .list []) (EvF.listL EvL.nil (by decide)) rfl (by walk_at "mPut") (by walk_at "mLoc") (by walk_at "mR") (show Ex _ _ _ _ _ _ from ?_))
    refine Ex.cons (Ex1.forI (items := rows.map rowD) (fl := .c) (Itr.list (Ev.name (by walk_at "mMem")) (by intro _; walk_at "mR")) (by simp) (by walk_at "mLoc")
      (fun i Γ => ∃ pm' left sl, passF (rows.drop i) pm' left = passF rows pm [] ∧ Inv ref (rowsOf tab) (left ++ rows.drop i) pm' ∧ (∀ v z, sl ≠ some (v, .s z)) ∧
        Γ = ([("self", some (.i 172 (shF (tab.map (·.1)) pm'), .s (a, some "places"))), ("table", some (.d (dictD (tabD tab)), .b)), ("rows", some (.d (.list (rows.map rowD)), .c)), ("name", none), ("row", sl), ("left", some (.d (.list (left.map rowD)), .o))] : Gm)) ⟨pm, [], _, rfl, I, by simp, rfl⟩ (fun i d Γ hd hΓ => ?_) (fun Γ hΓ => ?_))
    · obtain ⟨pm', left, sl, hpf, I', hsl, rfl⟩ := hΓ
      obtain ⟨⟨x, ss⟩, hq, rfl⟩ : ∃ q, rows[i]? = some q ∧ d = rowD q := by
        rw [List.getElem?_map] at hd
        obtain ⟨q, h1, h2⟩ := Option.map_eq_some_iff.mp hd
        exact ⟨q, h1, h2.symm⟩
      have hdr : rows.drop i = (x, ss) :: rows.drop (i + 1) := by
        obtain ⟨hi, e⟩ := List.getElem?_eq_some_iff.mp hq
        rw [List.drop_eq_getElem_cons hi, e]
      rw [hdr] at hpf I'
      refine ⟨.c, _, .inl rfl, by walk_at "mPut", ?_⟩
      have hm0 : (x, ss) ∈ rowsOf tab := I'.sub _ (by simp)
      have hndp : (pm'.map (·.1)).Nodup := (List.nodup_append.mp I'.nodup).1
      have hndq : ((plD pm').map (·.1)).Nodup := by rw [plD_keys]; exact hndp
      have hssl : ss.length ≤ 1000 := by
        obtain ⟨q, hq', e⟩ := List.mem_map.mp hm0
        cases e
        exact (hl q.1 q.2 hq').2.2
      have hBp : ∀ y q, (y, q) ∈ pm' → q.length ≤ 100000 := fun y q hy => by
        have h1 := I'.keys y (List.mem_map_of_mem (f := fun q : List Nat × List (List Nat) => q.1) hy)
        rw [rowsOf_keys] at h1
        have := hr y h1
        rw [I'.val y q hy]; omega
      have hlen' := I'.len
      have hleft : (left.map rowD).length = left.length := List.length_map ..
      simp only [List.length_append, List.length_cons] at hlen'
      have hird := is_ready_spec G (ss := ss) (pm := pm') hndp
      have hro : ∀ p₁ p₂ p₃ k₁, Ev T 3 env [("self", some (.i 172 (shF (tab.map (·.1)) pm'), .s (a, some "places"))), ("table", some (.d (dictD (tabD tab)), .b)), ("rows", some (.d (.list (rows.map rowD)), .c)), ("name", none), ("row", some (.d (rowD (x, ss)), .c)), ("left", some (.d (.list (left.map rowD)), .o))] (.Subscript (.Name "row" p₁) (.Constant (.int 1) k₁ p₂) p₃) (.d (.list (ss.map stD))) .c := fun p₁ p₂ p₃ k₁ =>
        Ev.sub (Ev.name (by walk_at "mMem")) (Ev.ofF EvF.kInt) (Sub.tuple (xs := [.str (mkS x), .list (ss.map stD)]) (by omega) (by omega) rfl) (by intro _ _; walk_at "mR")
      refine Ex.cons (Ex1.ite (b := ready pm' ss) ?_ (fun hrd => ?_) (fun hrd => ?_))
      · exact IsT.bool (Ev.ofF (EvF.fn (xs := [(.d (.list (ss.map stD)), .c), (_, _)]) (by walk_at "mKd") (by walk_at "mR") (EvA.cons (hro _ _ _ _) (EvA.cons (at_places G (by walk_at "mMem")) EvA.nil (by walk_at "mR")) (by walk_at "mR")) hird (by omega))) (by intro _; walk_at "mR")
      · obtain ⟨hx, hv, I''⟩ := I'.put hA hrd
        have hf := followed_spec G (p := []) hndp hrd hBp (by simp) (by omega)
        refine Ex.cons (Ex1.setSelf (fk := .c) (m := plD pm') (k := x) (d := .list (PL (ss.foldl (go (PMf pm')) []))) (fs := shF (tab.map (·.1)) pm') (fs' := shF (tab.map (·.1)) (pm' ++ [(x, ss.foldl (go (PMf pm')) [])])) c (by walk_at "mMem") rfl (show (["order", "places"] : List Str).Nodup by decide +kernel) ?_ (by rw [G.k]; k_is) (one _ _ _ _ _ _ (by simp) (by simp) (by simp) (by simp) (by simp)) ?_ ?_ hndq ?_ ?_ (by walk_at "mPut") (by walk_at "mR") (show Ex _ _ _ _ _ _ from ?_))
        · rw [show plD pm' ++ [(x, PyData.list (PL (ss.foldl (go (PMf pm')) [])))] = plD (pm' ++ [(x, ss.foldl (go (PMf pm')) [])]) by unfold plD; rw [List.map_append]; rfl]
          exact .there (by decide) .here
        · exact Ev.ofF (EvF.fn (xs := [(.d (.list (PL [])), .c), (.d (.list (ss.map stD)), .c), (_, _)]) (by walk_at "mKd") (by walk_at "mR") (EvA.cons (Ev.ofF (EvF.listL EvL.nil (by decide))) (EvA.cons (hro _ _ _ _) (EvA.cons (at_places G (by walk_at "mMem")) EvA.nil (by walk_at "mR")) (by walk_at "mR")) (by walk_at "mR")) hf (by omega))
        · exact Ev.sub (Ev.name (show _ ∈ _ from by walk_at "mMem")) (Ev.ofF EvF.kInt) (Sub.tuple (xs := [.str (mkS x), .list (ss.map stD)]) (by omega) (by omega) rfl) (by intro _ _; walk_at "mR")
        · rw [plD_look, lookup_none hx]; rfl
        · rw [sizeLine_is]
          unfold plD
          rw [List.length_map]; omega
        · exact Ex.nil (show Ex _ _ _ _ _ _ from Ex.nil ⟨_, left, some (.d (rowD (x, ss)), .c), by rw [← hpf, passF_pos hrd], I'', by simp, rfl⟩)
      · refine Ex.cons (Ex1.append (d := rowD (x, ss)) (by walk_at "mMem") (Ev.name (by walk_at "mMem")) (by walk_at "mPut") (by rw [sizeLine_is]; omega) (by walk_at "mR") (by walk_at "mR") (by walk_at "mR") (by walk_at "mR") (show Ex _ _ _ _ _ _ from ?_))
        exact Ex.nil (show Ex _ _ _ _ _ _ from Ex.nil ⟨pm', left ++ [(x, ss)], some (.d (rowD (x, ss)), .c), by rw [← hpf, passF_neg hrd], I'.skip, by simp, by rw [List.map_append]; rfl⟩)
    obtain ⟨pm', left, sl, hpf, I', hsl, rfl⟩ := hΓ
    rw [hrows, List.drop_length] at hpf I'
    rw [List.append_nil] at I'
    have hpf' : (pm', left) = passF rows pm [] := hpf
    have hmv := pass_moves hA I hne
    rw [← hpf'] at hmv
    have hlen' := I'.len
    have hleft : (left.map rowD).length = left.length := List.length_map ..
    refine (show Ex _ _ _ _ _ _ from ?_)
    refine Ex.freeze (x := "left") (by walk_at "mMem") (by walk_at "mPut") ?_
    refine Ex.drop (x := "row") (by walk_at "mPut") ?_
    refine Ex.cons (Ex1.ite (b := (((left.map rowD).length : Int) == ((rows.map rowD).length : Int))) (by walk_at "m") (fun h => ?_) (fun _ => ?_))
    · rw [hleft, hrows] at h
      have : (left.length : Int) = rows.length := by simpa using h
      simp only at hmv; omega
    refine Ex.nil (show Ex _ _ _ _ _ _ from ?_)
    refine Ex.cons (Ex1.assignV (Ev.name (by walk_at "mMem")) (by simp) (by walk_at "mPut") (by walk_at "mLoc") (by walk_at "mR") (show Ex _ _ _ _ _ _ from ?_))
    refine Ex.drop (x := "left") (by walk_at "mPut") (Ex.nil ?_)
    simp only at hmv
    obtain ⟨k, rfl⟩ : ∃ k', k = k' + 1 := ⟨k - 1, by have := List.length_pos_iff.mpr hne; omega⟩
    refine ⟨k, by omega, left, pm', I', ?_, by omega, rfl⟩
    rw [← hlf, loopF, ← hpf']
  · have he : rows = [] := by
      cases rows with
      | nil => rfl
      | cons r rows => exact absurd hb (by simp)
    subst he
    rw [loopF_nil] at hlf
    subst hlf
    refine (show Ex _ _ _ _ _ _ from ?_)
    exact Ex.nil ⟨rfl, _, List.mem_cons_self⟩
end
def wrF : PyData → PyData
  | .str x => .str (mkS (wr x.cps.toList))
  | d => d
theorem map_all {α : Type} (f : α → PyData) (xs : List α) (g : PyData → PyData) : List.map g (List.filter (fun _ => true) (xs.map f)) = xs.map fun x => g (f x) := by
  rw [List.filter_eq_self.mpr (fun _ _ => rfl), List.map_map]; rfl
theorem cut_to {α : Type} (l : List α) (k : Nat) : pyCut none (some (k : Int)) l = l.take k := by
  have h := pyCut_ab l 0 (k : Int) (by omega) (by omega)
  have e : pyCut none (some (k : Int)) l = pyCut (some 0) (some (k : Int)) l := by
    unfold pyCut; rfl
  rw [e, h]; simp
structure PMok (pm : PM) : Prop where
  nd : (pm.map (·.1)).Nodup
  B : ∀ y q, (y, q) ∈ pm → q.length ≤ 100000
section
variable {T : St} (G : GK T)
include G
theorem wr_comp {n k : Nat} {env : Env} {Γ : Gm} {e : PySem.Expr} {p : List (List Nat)} {fl : Fl} {f x : Str} {pf pn px pos pc : Pos} {sc : Scope} (hw : ∀ y ∈ p, Fun T k f [.d (.str (mkS y))] (.str (mkS (wr y)))) (hl : p.length ≤ 5000) (hn : k ≤ n) (hi : Itr T n env Γ e (PL p) fl) (hc : CompScope sc env x) (hk : ∀ C cl, (compEnvC sc cl C env).kindOf f = some .globalImplicit) (hd : (f == ("__debug__" : Str)) = false) (hx : okNames [x] = true)
    (hs : ∀ env' : Env, starEach [.Name x pn] env' = [(false, eval (.Name x pn) env')]) :
    EvF T n env Γ (.ListComp (.Call (.Name f pf) [.Name x pn] [] pc) [⟨.Name x px, e, [], 0⟩] sc pos) (.list (PL (p.map wr))) := by
  refine EvF.cast (EvF.comp (Γv := []) (p := fun _ => true) (f := wrF) (items := PL p) hi hc ?_ ?_ ?_ ?_ ?_) (congrArg PyData.list ?_)
  · intro q hq; cases hq
  · exact okNames_ok hx
  · rw [List.length_map, sizeLine_is]; omega
  · exact fun _ _ _ _ => rfl
  · intro C cl d hd' _
    obtain ⟨y, hy, rfl⟩ := List.mem_map.mp hd'
    show EvF _ _ _ [(x, some (.d (.str (mkS y)), .c))] _ (.str (mkS (wr y)))
    exact EvF.fn (xs := [(.d (.str (mkS y)), .c)]) (hk C cl) hd (EvA.cons (Ev.name List.mem_cons_self) EvA.nil (hs _)) (hw y hy) hn
  · rw [map_all]; simp [wrF, mkS_cps]
theorem icat_fits {p : List (List Nat)} (hp : ∀ x ∈ p, Gn x) (hl : p.length ≤ 2600) : ((p.map wr).map (·.length)).sum + (p.map wr).length * (Str.ofString "/").cps.toList.length ≤ 16777216 ∧ (List.intercalate [47] (p.map wr)).length ≤ 400000 := by
  have h2 := wr_sum hp
  have h3 := icat_len (p.map wr)
  rw [s2]
  simp only [List.length_map, List.length_singleton, Nat.mul_one] at h2 h3 ⊢
  omega
theorem from_root_spec {p : List (List Nat)} (hp : ∀ x ∈ p, Gn x) (hl : p.length ≤ 2600) : Fun T 3 "from_root" [.d (.list (PL p))] (.str (mkS (rootL p))) := by
  refine Fun.defK G ["place"] [] (by k_is) (by k_is) (by k_is) (by walk_at "mBinds") (Prm.b Prm.nil) (by rfl) (by rfl) ⟨rfl, rfl, rfl⟩ (fun env he => ?_)
  walk_at "mDef"
  have hf := icat_fits G hp hl
  refine Ex.cons (Ex1.ret (d := .str (mkS (rootL p))) ?_ rfl)
  rw [show rootL p = [47] ++ List.intercalate [47] (p.map wr) from rfl]
  rw [← s2] at hf ⊢
  refine EvF.bin (f₁ := .c) (f₂ := .c) (Ev.ofF EvF.kS) (Ev.ofF (EvF.meth (xs := [(.d (.list (PL (p.map wr))), .c)]) (Ev.ofF EvF.kS) (EvA.cons (Ev.ofF (wr_comp G (k := 2) (fun y hy => written_spec G (by have := (hp y hy).2.1; omega)) (by omega) (by omega) (Itr.list (Ev.name (by walk_at "mMem")) (by intro _; walk_at "mR")) (okComp_ok he rfl rfl) (fun _ _ => rfl) (by walk_at "mR") (by decide +kernel) (fun _ => by walk_at "mR"))) EvA.nil (by walk_at "mR")) (Meth.join hf.1) (by walk_at "mR") (by walk_at "mR") (by walk_at "mR"))) (Bin.catS ?_)
  have := hf.2
  rw [sizeLine_is, show (Str.ofString "/").cps.toList.length = 1 by rw [s2]; rfl]; omega
theorem by_share_spec {nms : List (List Nat)} {pm : PM} {p : List (List Nat)} (hpm : PMok pm) (hp : ∀ x ∈ p, Gn x) (hl : p.length ≤ 2600) (hn : ∀ x ∈ nms, Gn x) (hnl : nms.length ≤ 1000) (hin : ∀ x ∈ nms, pm.lookup x = some (PMf pm x)) (hpa : ∀ x ∈ nms, ∀ y ∈ PMf pm x, Gn y) :
    Fun T 4 "by_share" [.d (.list (PL p)), .i 172 (shF nms pm)] (.str (mkS (tellL (PMf pm) p (bestF (PMf pm) p nms)))) := by
  obtain ⟨hnm, fd, hnmf⟩ := names_spec G (names := nms) (pm := pm) hnl
  have c := shares_cls G
  have hfr := from_root_spec G hp hl
  have hpasc : ∀ x ∈ p, Asc x := fun x hx => (hp x hx).asc
  have Lp : (PL p).length = p.length := by simp
  refine Fun.defK G ["place", "shares"] ["best", "many", "name", "own"] (by k_is) (by k_is) (by k_is) (by walk_at "mBinds") (Prm.b (Prm.b Prm.nil)) (by rfl) (by rfl) ⟨rfl, rfl, rfl⟩ (fun env he => ?_)
  walk_at "mDef"
  refine Ex.cons (Ex1.assign (d := .none) EvF.kNone (by walk_at "mPut") (by walk_at "mLoc") (by walk_at "mR") (show Ex _ _ _ _ _ _ from ?_))
  refine Ex.cons (Ex1.assign (d := .int 0) EvF.kInt (by walk_at "mPut") (by walk_at "mLoc") (by walk_at "mR") (show Ex _ _ _ _ _ _ from ?_))
  refine Ex.cons (Ex1.forI (items := PL nms) (fl := .c) (Itr.list (Ev.ofF (EvF.methI (xs := []) (fl := .b) c (Ev.name (by walk_at "mMem")) (by rw [G.k]; k_is) (by rw [G.k]; k_is) hnmf rfl EvA.nil hnm (by omega) (by walk_at "mR") (by walk_at "mR") (by walk_at "mR"))) (by intro _; walk_at "mR")) (by simp) (by walk_at "mLoc")
    (fun i Γ => ∃ sl sl', Γ = ([("place", some (.d (.list (PL p)), .b)), ("shares", some (.i 172 (shF nms pm), .b)), ("best", some (.d (optS ((nms.take i).foldl (bStep (PMf pm) p) (none, 0)).1), .c)), ("many", some (.d (.int (((nms.take i).foldl (bStep (PMf pm) p) (none, 0)).2 : Nat)), .c)), ("name", sl), ("own", sl')] : Gm)) ⟨_, _, rfl⟩ (fun i d Γ hd hΓ => ?_) (fun Γ hΓ => ?_))
  · obtain ⟨sl, sl', rfl⟩ := hΓ
    obtain ⟨x, hx, rfl⟩ : ∃ x, nms[i]? = some x ∧ d = .str (mkS x) := by
      rw [List.getElem?_map] at hd
      obtain ⟨q, h1, h2⟩ := Option.map_eq_some_iff.mp hd
      exact ⟨q, h1, h2.symm⟩
    have hxm := List.mem_of_getElem? hx
    refine ⟨.c, _, .inl rfl, by walk_at "mPut", ?_⟩
    have hfs : (nms.take (i + 1)).foldl (bStep (PMf pm) p) (none, 0) = bStep (PMf pm) p ((nms.take i).foldl (bStep (PMf pm) p) (none, 0)) x := by rw [List.take_succ, hx]; simp
    generalize (nms.take i).foldl (bStep (PMf pm) p) (none, 0) = b at hfs ⊢
    have hqB := hpm.B x _ (lookup_mem (hin x hxm))
    have hqa : ∀ y ∈ PMf pm x, Asc y := fun y hy => (hpa x hxm y hy).asc
    obtain ⟨hpl, fd', hplf⟩ := place_spec G (names := nms) hpm.nd (hin x hxm) hqB
    refine Ex.cons (Ex1.assign (d := .list (PL (PMf pm x))) (EvF.methI (xs := [(.d (.str (mkS x)), .c)]) (fl := .b) c (Ev.name (by walk_at "mMem")) (by rw [G.k]; k_is) (by rw [G.k]; k_is) hplf rfl (EvA.cons (Ev.name (by walk_at "mMem")) EvA.nil (by walk_at "mR")) hpl (by omega) (by walk_at "mR") (by walk_at "mR") (by walk_at "mR")) (by walk_at "mPut") (by walk_at "mLoc") (by walk_at "mR") (show Ex _ _ _ _ _ _ from ?_))
    rw [show bStep (PMf pm) p b x = (if b.2 < (PMf pm x).length ∧ p.take (PMf pm x).length = PMf pm x then (some x, (PMf pm x).length) else b) from rfl] at hfs
    generalize PMf pm x = own at hqB hqa hfs ⊢
    have Lo : (PL own).length = own.length := by simp
    have hcut : pyCut none (some ((PL own).length : Int)) (PL p) = PL (p.take own.length) := by rw [cut_to, Lo]; exact (List.map_take ..).symm
    refine Ex.cons (Ex1.ite (b := decide (b.2 < own.length ∧ p.take own.length = own)) ?_ (fun h => ?_) (fun h => ?_))
    · have e : decide (b.2 < own.length ∧ p.take own.length = own) = (decide (((PL own).length : Int) > ((b.2 : Nat) : Int)) && (decide (p.take own.length = own) && true)) := by
        rw [Lo, Bool.eq_iff_iff]; simp
      rw [e]
      refine IsT.and (by walk_at "m") (fun _ => IsT.and ?_ fun _ => IsT.andNil)
      refine IsT.cmp (f₁ := .c) (f₂ := .c) (v₁ := .d (.list (PL (p.take own.length)))) (v₂ := .d (.list (PL own))) (Ev.ofF ?_) (Ev.name (by walk_at "mMem")) (Cmp.eqPL (fun y hy => hpasc y (List.mem_of_mem_take hy)) hqa) (by walk_at "mR")
      rw [← hcut]
      walk_at "m"
    · have h' := of_decide_eq_true h
      rw [if_pos h'] at hfs
      refine Ex.cons (Ex1.assign (d := .str (mkS x)) (by walk_at "m") (by walk_at "mPut") (by walk_at "mLoc") (by walk_at "mR") (show Ex _ _ _ _ _ _ from ?_))
      refine Ex.cons (Ex1.assign (d := .int ((PL own).length : Nat)) (by walk_at "m") (by walk_at "mPut") (by walk_at "mLoc") (by walk_at "mR") (show Ex _ _ _ _ _ _ from ?_))
      exact Ex.nil (show Ex _ _ _ _ _ _ from Ex.nil ⟨_, _, by rw [hfs, Lo]; rfl⟩)
    · have h' := of_decide_eq_false h
      rw [if_neg h'] at hfs
      exact Ex.nil (show Ex _ _ _ _ _ _ from Ex.nil ⟨_, _, by rw [hfs]⟩)
  obtain ⟨sl, sl', rfl⟩ := hΓ
  rw [show (PL nms).length = nms.length by simp, List.take_length]
  have hb := bestF_ok (ref := PMf pm) (p := p) (nms := nms)
  show Ex _ _ _ [("place", _), ("shares", _), ("best", some (.d (optS (bestF (PMf pm) p nms).1), .c)), ("many", some (.d (.int ((bestF (PMf pm) p nms).2 : Nat)), .c)), ("name", sl), ("own", sl')] _ _
  generalize bestF (PMf pm) p nms = b at hb ⊢
  rcases hb with rfl | ⟨x, hx, rfl, ht⟩
  · refine Ex.cons (Ex1.ite (b := true) ?_ (fun _ => ?_) (fun h => nomatch h))
    · show IsT _ _ _ [("place", _), ("shares", _), ("best", some (.d .none, .c)), _, _, _] _ (isNoneD .none)
      walk_at "m"
    · exact Ex.cons (Ex1.ret (d := .str (mkS (rootL p))) (EvF.fn (xs := [(_, .b)]) (by walk_at "mKd") (by walk_at "mR") (EvA.cons (Ev.name (by walk_at "mMem")) EvA.nil (by walk_at "mR")) hfr (by omega)) rfl)
  · show Ex _ _ _ [("place", some (.d (.list (PL p)), .b)), ("shares", some (.i 172 (shF nms pm), .b)), ("best", some (.d (.str (mkS x)), .c)), ("many", some (.d (.int ((PMf pm x).length : Nat)), .c)), ("name", sl), ("own", sl')] _ _
    have hgx := hn x hx
    have hwx := written_spec G (nm := x) (by have := hgx.2.1; omega)
    have hlx := wr_len x
    have hgl := hgx.2.1
    have hdg : ∀ y ∈ p.drop (PMf pm x).length, Gn y := fun y hy => hp y (List.mem_of_mem_drop hy)
    have hdl : (p.drop (PMf pm x).length).length ≤ 2600 := by rw [List.length_drop]; omega
    have hsum := wr_sum hdg
    refine Ex.cons (Ex1.ite (b := false) ?_ (fun h => nomatch h) (fun _ => ?_))
    · rw [show false = isNoneD (.str (mkS x)) from rfl]
      walk_at "m"
    refine Ex.nil (show Ex _ _ _ _ _ _ from ?_)
    refine Ex.cons (Ex1.ret (d := .str (mkS (byL x (p.drop (PMf pm x).length)))) ?_ rfl)
    unfold byL
    generalize (PMf pm x).length = many at hdg hdl hsum ⊢
    rw [← s2]
    refine EvF.meth (xs := [(.d (.list (PL ((64 :: wr x) :: (p.drop many).map wr))), .c)]) (Ev.ofF EvF.kS) (EvA.cons (Ev.ofF (EvF.cast (d := .list ([.str (mkS (64 :: wr x))] ++ PL ((p.drop many).map wr))) (EvF.bin (f₁ := .c) (f₂ := .c) (Ev.ofF (EvF.listL (EvL.cons (Ev.ofF ?_) EvL.nil (by walk_at "mR")) (by rw [sizeLine_is]; simp))) (Ev.ofF (wr_comp G (k := 2) (fl := .c) (fun y hy => written_spec G (by have := (hdg y hy).2.1; omega)) (by omega) (by omega) (Itr.list (Ev.ofF ?_) (by intro _; walk_at "mR")) (okComp_ok he rfl rfl) (fun _ _ => rfl) (by walk_at "mR") (by decide +kernel) (fun _ => by walk_at "mR"))) (Bin.catL ?_ (.inl rfl) (.inl rfl))) rfl)) EvA.nil (by walk_at "mR")) (Meth.join ?_) (by walk_at "mR") (by walk_at "mR") (by walk_at "mR")
    · rw [show (64 :: wr x) = (Str.ofString "@").cps.toList ++ wr x by rw [s3]; rfl]
      refine EvF.bin (f₁ := .c) (f₂ := .c) (Ev.ofF EvF.kS) (Ev.ofF (EvF.fn (xs := [(.d (.str (mkS x)), .c)]) (by walk_at "mKd") (by walk_at "mR") (EvA.cons (Ev.name (show _ ∈ _ from by walk_at "mMem")) EvA.nil (by walk_at "mR")) hwx (by omega))) (Bin.catS ?_)
      rw [sizeLine_is, s3]; simp only [List.length_singleton]; omega
    · rw [show PL (p.drop many) = pyCut (some (many : Int)) none (PL p) by rw [pyCut_from _ _ (by omega), Int.toNat_natCast]; exact List.map_drop ..]
      walk_at "m"
    · rw [sizeLine_is]; simp only [List.length_singleton, List.length_map]; omega
    · rw [s2]
      simp only [List.map_cons, List.sum_cons, List.length_cons, List.length_map, List.length_nil] at hsum ⊢
      omega
end
theorem nodup_take {α : Type} {l : List α} {i : Nat} {x : α} (hn : l.Nodup) (hx : l[i]? = some x) : x ∉ l.take i := fun hm => by
  have h1 : (l.take i ++ l.drop i).Nodup := by rw [List.take_append_drop]; exact hn
  have h2 : x ∈ l.drop i := List.mem_of_getElem? (i := 0) (by rw [List.getElem?_drop]; exact hx)
  exact (List.nodup_append.mp h1).2.2 x hm x h2 rfl
theorem tabD_get {tab : Tab} {i : Nat} {q : List Nat × PyData} (h : (tabD tab)[i]? = some q) : ∃ l, tab[i]? = some (q.1, l) ∧ q.2 = .str (mkS l) := by
  unfold tabD at h
  rw [List.getElem?_map] at h
  obtain ⟨r, h1, rfl⟩ := Option.map_eq_some_iff.mp h
  exact ⟨r.2, h1, rfl⟩
theorem tabD_snoc (tab : Tab) (x l : List Nat) : tabD (tab ++ [(x, l)]) = tabD tab ++ [(x, .str (mkS l))] := by unfold tabD; rw [List.map_append]; rfl
theorem plD_snoc (pm : PM) (x : List Nat) (p : List (List Nat)) : plD (pm ++ [(x, p)]) = plD pm ++ [(x, .list (PL p))] := by unfold plD; rw [List.map_append]; rfl
theorem take_next {α : Type} {l : List α} {i : Nat} {x : α} (hx : l[i]? = some x) : l.take (i + 1) = l.take i ++ [x] := by rw [List.take_succ, hx]; rfl
def innF (c : Int) : PyData → PyData
  | .int k => .int (c / 5 + 37 * k * (1 + c % 7))
  | d => d
def manyOf (c : Int) : Int := if c / 5 % 8 = 3 then 60 else c % 5
theorem inn_all (c : Int) : List.map (innF c) (List.filter (fun _ => true) (rangeD (manyOf c).toNat)) = (innerOf c).map .int := by
  unfold rangeD innerOf manyOf
  rw [map_all', List.map_map]
  have e : (if c / 5 % 8 = 3 then (60 : Int) else c % 5).toNat = (if c / 5 % 8 = 3 then 60 else (c % 5).toNat) := by split <;> rfl
  rw [e]; rfl
local macro_rules | `(tactic| walk_at "mC") => `(tactic| exact law_name_by_spec (by assumption))
local macro_rules | `(tactic| walk_at "mC") => `(tactic| (with_reducible assumption))
section
variable {T : St} (G : GK T)
include G
theorem law_mixed_spec {tab : Tab} {c : Int} (hn : (tab.map (·.1)).Nodup) (hz : tab.length ≤ 1000) : Fun T 1 "_law_mixed" [.d (dictD (tabD tab)), .d (.int c)] (dictD (tabD (mixT c tab))) := by
  have hnD : ((tabD tab).map (·.1)).Nodup := by rw [tabD_keys]; exact hn
  have hLn : ((mixT c tab).map (·.1)).Nodup := by rw [mixT_keys]; exact (mixF_perm c _).nodup_iff.mpr hn
  have hLl : (mixT c tab).length = tab.length := (mixT_perm c hn).length_eq
  refine Fun.defK G ["_law_lines", "_law_cell"] ["_law_names", "_law_k", "_law_name", "_law_found"] (by k_is) (by k_is) (by k_is) (by walk_at "mBinds") (Prm.b (Prm.c rfl Prm.nil)) (by rfl) (by rfl) ⟨rfl, rfl, rfl⟩ (fun env he => ?_)
  walk_at "mDef"
  refine Ex.cons (Ex1.assignO (d := .list []) (EvF.listL EvL.nil (by decide)) rfl (by walk_at "mPut") (by walk_at "mLoc") (by walk_at "mR") (show Ex _ _ _ _ _ _ from ?_))
  refine Ex.cons (Ex1.forE (m := tabD tab) (fl := .b) (by walk_at "mKd") (by walk_at "mG") (by walk_at "mB") (Ev.name (by walk_at "mMem")) hnD (by simp) (by walk_at "mR") (by walk_at "mLoc") (by walk_at "mLoc")
    (fun i Γ => ∃ sk sn, Γ = ([("_law_lines", some (.d (dictD (tabD tab)), .b)), ("_law_cell", some (.d (.int c), .c)), ("_law_names", some (.d (.list (PL (mixTo c (tab.map (·.1)) i))), .o)), ("_law_k", sk), ("_law_name", sn), ("_law_found", none)] : Gm)) ⟨_, _, rfl⟩ (fun i q Γ hq hΓ => ?_) (fun Γ hΓ => ?_))
  · obtain ⟨sk, sn, rfl⟩ := hΓ
    obtain ⟨l, hl, _⟩ := tabD_get hq
    refine ⟨_, _, by walk_at "mPut", by walk_at "mPut", ?_⟩
    have hi : i < tab.length := (List.getElem?_eq_some_iff.mp hl).1
    have hgd : (tab.map (·.1)).getD i [] = q.1 := by simp [List.getD, hl]
    have hml := mixTo_len c (tab.map (·.1)) i (by rw [List.length_map]; omega)
    have hmp := mixPos_le c i
    have L : (PL (mixTo c (tab.map (·.1)) i)).length = i := by rw [List.length_map]; exact hml
    have hp0 := Int.emod_nonneg (c + (i : Int) * (c / 41 + 31 * (i : Int))) (b := (i : Int) + 1) (by omega)
    have hp1 := Int.emod_lt_of_pos (c + (i : Int) * (c / 41 + 31 * (i : Int))) (b := (i : Int) + 1) (by omega)
    refine Ex.cons (Ex1.insert (i := (c + (i : Int) * (c / 41 + 31 * (i : Int))) % ((i : Int) + 1)) (f₁ := .c) (d := .str (mkS q.1)) (by walk_at "mMem") (EvA.cons (Ev.ofF (by walk_at "m")) (EvA.cons (Ev.name (by walk_at "mMem")) EvA.nil (by walk_at "mR")) (by walk_at "mR")) hp0 (by rw [L]; omega) (by rw [L, sizeLine_is]; omega) (by walk_at "mPut") (by walk_at "mR") (by walk_at "mR") (by walk_at "mR") (show Ex _ _ _ _ _ _ from ?_))
    have e : PL (mixTo c (tab.map (·.1)) (i + 1)) = (PL (mixTo c (tab.map (·.1)) i)).take ((c + (i : Int) * (c / 41 + 31 * (i : Int))) % ((i : Int) + 1)).toNat ++ .str (mkS q.1) :: (PL (mixTo c (tab.map (·.1)) i)).drop ((c + (i : Int) * (c / 41 + 31 * (i : Int))) % ((i : Int) + 1)).toNat := by
      rw [mixTo, hgd]
      unfold PL mixPos
      rw [List.map_append, List.map_cons, List.map_take, List.map_drop]
    exact Ex.nil ⟨_, _, by rw [e]⟩
  obtain ⟨sk, sn, rfl⟩ := hΓ
  rw [show (tabD tab).length = (tab.map (·.1)).length by unfold tabD; simp]
  show Ex _ _ _ [("_law_lines", _), ("_law_cell", _), ("_law_names", some (.d (.list (PL (mixF c (tab.map (·.1))))), .o)), ("_law_k", sk), ("_law_name", sn), ("_law_found", none)] _ _
  refine Ex.freeze (x := "_law_names") (by walk_at "mMem") (by walk_at "mPut") ?_
  refine Ex.cons (Ex1.assignO (d := dictD []) EvF.dict0 rfl (by walk_at "mPut") (by walk_at "mLoc") (by walk_at "mR") (show Ex _ _ _ _ _ _ from ?_))
  refine Ex.cons (Ex1.forI (items := PL (mixF c (tab.map (·.1)))) (fl := .c) (Itr.list (Ev.name (by walk_at "mMem")) (by intro _; walk_at "mR")) (by simp) (by walk_at "mLoc")
    (fun i Γ => ∃ sn, Γ = ([("_law_lines", some (.d (dictD (tabD tab)), .b)), ("_law_cell", some (.d (.int c), .c)), ("_law_names", some (.d (.list (PL (mixF c (tab.map (·.1))))), .c)), ("_law_k", sk), ("_law_name", sn), ("_law_found", some (.d (dictD (tabD ((mixT c tab).take i))), .o))] : Gm)) ⟨_, rfl⟩ (fun i d Γ hd hΓ => ?_) (fun Γ hΓ => ?_))
  · obtain ⟨sn, rfl⟩ := hΓ
    obtain ⟨x, hx, rfl⟩ : ∃ x, (mixF c (tab.map (·.1)))[i]? = some x ∧ d = .str (mkS x) := by
      rw [List.getElem?_map] at hd
      obtain ⟨q, h1, h2⟩ := Option.map_eq_some_iff.mp hd
      exact ⟨q, h1, h2.symm⟩
    refine ⟨.c, _, .inl rfl, by walk_at "mPut", ?_⟩
    have hLi : (mixT c tab)[i]? = some (x, (tab.lookup x).getD []) := by unfold mixT; rw [List.getElem?_map, hx]; rfl
    have hxm : x ∈ tab.map (·.1) := (mixF_perm c _).mem_iff.mp (List.mem_of_getElem? hx)
    obtain ⟨l, hl⟩ := Option.isSome_iff_exists.mp (lookup_some hxm)
    rw [hl] at hLi
    have hlk : (tabD tab).lookup x = some (.str (mkS l)) := by rw [tabD_look, hl]; rfl
    refine Ex.cons (Ex1.setNew (m := tabD ((mixT c tab).take i)) (k := x) (d := .str (mkS l)) (by walk_at "mMem") (Ev.ofF (Ev.still (Ev.sub (Ev.name (by walk_at "mMem")) (Ev.name (by walk_at "mMem")) (Sub.dict hnD hlk) (by intro _ _; walk_at "mR")) rfl)) (Ev.name (by walk_at "mMem")) ?_ ?_ ?_ (by walk_at "mPut") (by walk_at "mR") (show Ex _ _ _ _ _ _ from ?_))
    · rw [tabD_keys, List.map_take]; exact hLn.sublist (List.take_sublist ..)
    · rw [tabD_look, lookup_none]
      · rfl
      · rw [List.map_take]
        refine nodup_take hLn ?_
        rw [List.getElem?_map, hLi]; rfl
    · rw [sizeLine_is]; unfold tabD; rw [List.length_map, List.length_take]; omega
    · exact Ex.nil ⟨_, by rw [take_next hLi, tabD_snoc]; rfl⟩
  obtain ⟨sn, rfl⟩ := hΓ
  rw [show (PL (mixF c (tab.map (·.1)))).length = (mixT c tab).length by unfold mixT; simp, List.take_length]
  refine (show Ex _ _ _ _ _ _ from ?_)
  exact Ex.cons (Ex1.retO (by walk_at "mMem") rfl)
theorem law_rows_by_spec {cs : List Int} (hc : cs.length ≤ 50) : Fun T 6 "_law_rows_by" [.d (.list (cs.map .int))] (.tuple [dictD (tabD (cs.foldl rowStep ([], [])).1), dictD (plD (cs.foldl rowStep ([], [])).2)]) := by
  refine Fun.defK G ["_law_cells"] ["_law_lines", "_law_places", "_law_cell", "_law_name", "_law_many", "_law_inner", "_law_made"] (by k_is) (by k_is) (by k_is) (by walk_at "mBinds") (Prm.b Prm.nil) (by rfl) (by rfl) ⟨rfl, rfl, rfl⟩ (fun env he => ?_)
  walk_at "mDef"
  refine Ex.cons (Ex1.assignO (d := dictD []) EvF.dict0 rfl (by walk_at "mPut") (by walk_at "mLoc") (by walk_at "mR") (show Ex _ _ _ _ _ _ from ?_))
  refine Ex.cons (Ex1.assignO (d := dictD []) EvF.dict0 rfl (by walk_at "mPut") (by walk_at "mLoc") (by walk_at "mR") (show Ex _ _ _ _ _ _ from ?_))
  refine Ex.cons (Ex1.forI (items := cs.map .int) (fl := .b) (Itr.list (Ev.name (by walk_at "mMem")) (by intro _; walk_at "mR")) (by simp) (by walk_at "mLoc")
    (fun i Γ => ∃ t1 t2 t3 t4 t5, Γ = ([("_law_cells", some (.d (.list (cs.map .int)), .b)), ("_law_lines", some (.d (dictD (tabD ((cs.take i).foldl rowStep ([], [])).1)), .o)), ("_law_places", some (.d (dictD (plD ((cs.take i).foldl rowStep ([], [])).2)), .o)), ("_law_cell", t1), ("_law_name", t2), ("_law_many", t3), ("_law_inner", t4), ("_law_made", t5)] : Gm)) ⟨_, _, _, _, _, rfl⟩ (fun i d Γ hd hΓ => ?_) (fun Γ hΓ => ?_))
  · obtain ⟨t1, t2, t3, t4, t5, rfl⟩ := hΓ
    obtain ⟨c, hci, rfl⟩ : ∃ c, cs[i]? = some c ∧ d = .int c := by
      rw [List.getElem?_map] at hd
      obtain ⟨q, h1, h2⟩ := Option.map_eq_some_iff.mp hd
      exact ⟨q, h1, h2.symm⟩
    refine ⟨.c, _, .inr ⟨rfl, rfl⟩, by walk_at "mPut", ?_⟩
    have hi : i < cs.length := (List.getElem?_eq_some_iff.mp hci).1
    have hfs : (cs.take (i + 1)).foldl rowStep ([], []) = rowStep ((cs.take i).foldl rowStep ([], [])) c := by rw [List.take_succ, hci]; simp
    obtain ⟨I, hl1, hl2⟩ := RI.all (cs.take i) ([], []) RI.nil
    have hti : (cs.take i).length ≤ 50 := by rw [List.length_take]; omega
    generalize (cs.take i).foldl rowStep ([], []) = S at hfs I hl1 hl2 ⊢
    obtain ⟨tab, pm⟩ := S
    simp only [List.length_nil, Nat.zero_add] at hl1 hl2 ⊢
    have hnD : ((tabD tab).map (·.1)).Nodup := by rw [tabD_keys]; exact I.nodup
    have hkey : tab.map (·.1) = pm.map (·.1) := I.keys
    have hnP : (pm.map (·.1)).Nodup := by rw [← hkey]; exact I.nodup
    have hnPD : ((plD pm).map (·.1)).Nodup := by rw [plD_keys]; exact hnP
    refine Ex.cons (Ex1.assign (d := .str (mkS (nameBy (c / 5)))) (by walk_at "m") (by walk_at "mPut") (by walk_at "mLoc") (by walk_at "mR") (show Ex _ _ _ _ _ _ from ?_))
    have hbl : ((tabD tab).lookup (nameBy (c / 5))).isSome = (tab.lookup (nameBy (c / 5))).isSome := by rw [tabD_look, Option.isSome_map]
    refine Ex.cons (Ex1.ite (b := !((tabD tab).lookup (nameBy (c / 5))).isSome) (IsT.cmp (Ev.name (by walk_at "mMem")) (Ev.name (by walk_at "mMem")) (Cmp.ninD hnD) (by walk_at "mR")) (fun hb => ?_) (fun hb => ?_))
    · rw [hbl] at hb
      have hno : (tab.lookup (nameBy (c / 5))).isSome = false := by simpa using hb
      have hstep : rowStep (tab, pm) c = (tab ++ [(nameBy (c / 5), pthLine (tab.map (·.1)) (innerOf c))], pm ++ [(nameBy (c / 5), (rowSteps tab c).foldl (go (PMf pm)) [])]) := by
        unfold rowStep; rw [if_neg (by simp only [hno]; decide)]
      rw [hstep] at hfs
      obtain ⟨r1, r2, r3, r4, r5, r6⟩ := row_line I.gd c
      have hin := inner_len c
      have hxt : tab.lookup (nameBy (c / 5)) = none := by simpa using hno
      have hxn : nameBy (c / 5) ∉ tab.map (·.1) := fun h => by have := lookup_some h; rw [hno] at this; cases this
      have hm0 : 0 ≤ manyOf c := by unfold manyOf; split <;> omega
      have hm1 : manyOf c ≤ 60 := by unfold manyOf; split <;> omega
      refine Ex.cons (Ex1.assign (d := .int (manyOf c)) (Ev.still (Ev.sub (Ev.ofF (EvF.listL (ds := [.int (c % 5), .int 60]) (EvL.cons (Ev.ofF (by walk_at "m")) (EvL.cons (Ev.ofF EvF.kInt) EvL.nil (by walk_at "mR")) (by walk_at "mR")) (by rw [sizeLine_is]; simp))) (Ev.ofF (EvF.callB (xs := [(.d (.bool (c / 5 % 8 == 3)), .c)]) (by walk_at "mKd") (by walk_at "mR") (by walk_at "mG") (by walk_at "mB") (.inr ⟨_, rfl⟩) (EvA.cons (Ev.ofF (by walk_at "m")) EvA.nil (by walk_at "mR")) CallB.intB)) (Sub.list ?_ ?_ ?_) (by intro _ _; walk_at "mR")) rfl) (by walk_at "mPut") (by walk_at "mLoc") (by walk_at "mR") (show Ex _ _ _ _ _ _ from ?_))
      · split <;> decide
      · split <;> decide
      · unfold manyOf
        by_cases h : c / 5 % 8 = 3
        · simp [h]
        · simp [h]
      refine Ex.cons (Ex1.assignComp (fl' := .c) (.inl rfl) (Γv := [("_law_cell", some (.d (.int c), .c))]) (p := fun _ => true) (f := innF c) (items := rangeD (manyOf c).toNat) (fl := .c) (by walk_at "mItr") ?_ ?_ ?_ ?_ ?_ ?_ (by walk_at "mPut") (by walk_at "mLoc") (by unfold swapsWith Env.blockKind Env.kindOf; rw [he]; rfl) (show Ex _ _ _ _ _ _ from ?_))
      · exact okComp_ok he rfl rfl
      · intro q hq
        simp only [List.mem_cons, List.not_mem_nil, or_false] at hq
        subst hq; exact ⟨by walk_at "mMem", rfl⟩
      · exact okNames_ok rfl
      · rw [rangeD_length, sizeLine_is]; omega
      · exact fun _ _ _ _ => rfl
      · intro C cl d hd _
        obtain ⟨k, hk⟩ := List.getElem?_of_mem hd
        obtain ⟨hk, rfl⟩ := rangeD_get hk
        show EvF _ _ _ [("_law_k", some (.d (.int (k : Int)), .c)), ("_law_cell", some (.d (.int c), .c))] _ (.int (c / 5 + 37 * (k : Int) * (1 + c % 7)))
        walk_at "m"
      rw [inn_all]
      have hpb := law_path_by_spec G (names := tab.map (·.1)) (cs := innerOf c) (fun x hx => (I.gd x hx).2.2) (fun x hx => by have := (I.gd x hx).2.1; omega) (by rw [List.length_map]; omega) (by omega)
      refine Ex.cons (Ex1.assign (d := .tuple [.str (mkS (pthLine (tab.map (·.1)) (innerOf c))), .list ((rowSteps tab c).map stD)]) (EvF.fn (xs := [(.d (.list ((innerOf c).map .int)), .c), (.d (.list (PL (tab.map (·.1)))), .c)]) (by walk_at "mKd") (by walk_at "mR") (EvA.cons (Ev.name (by walk_at "mMem")) (EvA.cons (Ev.ofF (EvF.callB (xs := [(.d (dictD (tabD tab)), .o)]) (by walk_at "mKd") (by walk_at "mR") (by walk_at "mG") (by walk_at "mB") (.inr ⟨_, rfl⟩) (EvA.cons (Ev.name (by walk_at "mMem")) EvA.nil (by walk_at "mR")) (by rw [← tabD_keys]; exact CallB.listD hnD (by rw [sizeLine_is]; unfold tabD; rw [List.length_map]; omega)))) EvA.nil (by walk_at "mR")) (by walk_at "mR")) hpb (by omega)) (by walk_at "mPut") (by walk_at "mLoc") (by walk_at "mR") (show Ex _ _ _ _ _ _ from ?_))
      generalize pthLine (tab.map (·.1)) (innerOf c) = line at hfs r1 r2 r3 hpb ⊢
      generalize rowSteps tab c = ss at hfs r2 r4 r5 r6 ⊢
      clear hpb
      have m0 : [PyData.str (mkS line), .list (ss.map stD)][Int.toNat 0]? = some (.str (mkS line)) := rfl
      have m1 : [PyData.str (mkS line), .list (ss.map stD)][Int.toNat 1]? = some (.list (ss.map stD)) := rfl
      have hrd : ready pm ss = true := List.all_eq_true.mpr fun s hs => by
        cases s with
        | sh y => exact lookup_some (hkey ▸ r5 y hs)
        | _ => rfl
      have hpB : ∀ y q, (y, q) ∈ pm → q.length ≤ 100000 := fun y q hy => by
        have h1 : q.length ≤ 61 * pm.length := (I.pgd y q hy).2
        omega
      have hlw := law_walk_spec G (p := []) hnP hrd hpB (by simp) (by omega)
      refine Ex.cons (Ex1.setNew (m := plD pm) (k := nameBy (c / 5)) (d := .list (PL (ss.foldl (go (PMf pm)) []))) (by walk_at "mMem") (Ev.ofF (EvF.fn (xs := [(.d (.list (PL [])), .c), (.d (.list (ss.map stD)), .c), (_, .o)]) (by walk_at "mKd") (by walk_at "mR") (EvA.cons (Ev.ofF (EvF.listL EvL.nil (by decide))) (EvA.cons (Ev.sub (Ev.name (by walk_at "mMem")) (Ev.ofF EvF.kInt) (Sub.tuple (by omega) (by omega) m1) (by intro _ _; walk_at "mR")) (EvA.cons (Ev.name (by walk_at "mMem")) EvA.nil (by walk_at "mR")) (by walk_at "mR")) (by walk_at "mR")) hlw (by omega))) (Ev.name (by walk_at "mMem")) hnPD ?_ ?_ (by walk_at "mPut") (by walk_at "mR") (show Ex _ _ _ _ _ _ from ?_))
      · rw [plD_look, lookup_none (by rw [← hkey]; exact hxn)]; rfl
      · rw [sizeLine_is]; unfold plD; rw [List.length_map]; omega
      refine Ex.cons (Ex1.setNew (m := tabD tab) (k := nameBy (c / 5)) (d := .str (mkS line)) (by walk_at "mMem") (Ev.sub (Ev.name (by walk_at "mMem")) (Ev.ofF EvF.kInt) (Sub.tuple (by omega) (by omega) m0) (by intro _ _; walk_at "mR")) (Ev.name (by walk_at "mMem")) hnD ?_ ?_ (by walk_at "mPut") (by walk_at "mR") (show Ex _ _ _ _ _ _ from ?_))
      · rw [tabD_look, hxt]; rfl
      · rw [sizeLine_is]; unfold tabD; rw [List.length_map]; omega
      exact Ex.nil (show Ex _ _ _ _ _ _ from Ex.nil ⟨_, _, _, _, _, by rw [hfs]; simp only; rw [tabD_snoc, plD_snoc]⟩)
    · rw [hbl] at hb
      have hyes : (tab.lookup (nameBy (c / 5))).isSome = true := by simpa using hb
      have hstep : rowStep (tab, pm) c = (tab, pm) := by unfold rowStep; rw [if_pos hyes]
      rw [hstep] at hfs
      exact Ex.nil (show Ex _ _ _ _ _ _ from Ex.nil ⟨_, _, _, _, _, by rw [hfs]⟩)
  obtain ⟨t1, t2, t3, t4, t5, rfl⟩ := hΓ
  rw [List.length_map, List.take_length]
  refine (show Ex _ _ _ _ _ _ from ?_)
  refine Ex.freeze (x := "_law_lines") (by walk_at "mMem") (by walk_at "mPut") ?_
  refine Ex.freeze (x := "_law_places") (by walk_at "mMem") (by walk_at "mPut") ?_
  exact Ex.cons (Ex1.ret (EvF.tupleL (EvL.cons (Ev.name (by walk_at "mMem")) (EvL.cons (Ev.name (by walk_at "mMem")) EvL.nil (by walk_at "mR")) (by walk_at "mR")) (by rw [sizeLine_is]; simp)) rfl)
end
structure ShOk (nms : List (List Nat)) (pm : PM) : Prop where
  ok : PMok pm
  gn : ∀ x ∈ nms, Gn x
  len : nms.length ≤ 1000
  look : ∀ x ∈ nms, pm.lookup x = some (PMf pm x)
  pgn : ∀ x ∈ nms, ∀ y ∈ PMf pm x, Gn y
theorem RI.ref {S : Tab × PM} (I : RI S) (h : S.2.length ≤ 50) {x : List Nat} (hx : x ∈ S.1.map (·.1)) : (∀ y ∈ PMf S.2 x, Gn y) ∧ (PMf S.2 x).length ≤ 61 * S.2.length := I.pgd x _ (PMf_mem (I.keys ▸ hx))
theorem RI.shares {S : Tab × PM} (I : RI S) (h1 : S.1.length ≤ 50) (h2 : S.2.length ≤ 50) (c : Int) : ShOk ((mixT c S.1).map (·.1)) (loopF (mixT c S.1).length (rowsOf (mixT c S.1)) []) := by
  have hp := mixT_perm c I.nodup
  have A := I.acy hp
  have L := loop_look A
  rw [rowsOf_keys, show (rowsOf (mixT c S.1)).length = (mixT c S.1).length from List.length_map ..] at L
  obtain ⟨l1, l2, l3, l4⟩ := L
  have hm : ∀ x ∈ (mixT c S.1).map (·.1), x ∈ S.1.map (·.1) := fun x hx => (hp.map (·.1)).mem_iff.mp hx
  have hPM : ∀ x ∈ (mixT c S.1).map (·.1), PMf (loopF (mixT c S.1).length (rowsOf (mixT c S.1)) []) x = PMf S.2 x := fun x hx => by
    rw [PMf, l1 x hx]; rfl
  refine ⟨⟨l3, fun y q hy => ?_⟩, fun x hx => I.gd x (hm x hx), ?_, fun x hx => ?_, fun x hx => ?_⟩
  · have e := lookup_nodup l3 hy
    by_cases hyn : y ∈ (mixT c S.1).map (·.1)
    · rw [l1 y hyn] at e
      cases e
      have := (I.ref h2 (hm y hyn)).2
      omega
    · rw [l2 y hyn] at e; cases e
  · rw [List.length_map, hp.length_eq]; omega
  · rw [hPM x hx]; exact l1 x hx
  · rw [hPM x hx]; exact (I.ref h2 (hm x hx)).1
theorem setM_last {m : List (List Nat × PyData)} {k : List Nat} {d d' : PyData} (hk : m.lookup k = none) : setM (m ++ [(k, d)]) k d' = m ++ [(k, d')] := by
  have hno : ∀ p ∈ m, p.1 ≠ k := fun p hp e => by
    have h1 : k ∈ m.map (·.1) := List.mem_map.mpr ⟨p, hp, e⟩
    have h2 := lookup_some h1
    rw [hk] at h2; cases h2
  have hl : ((m ++ [(k, d)]).lookup k).isSome = true := lookup_some (by simp)
  unfold setM
  rw [if_pos hl, List.map_append]
  congr 1
  · conv => rhs; rw [← List.map_id m]
    exact List.map_congr_left fun p hp => by simp [hno p hp]
  · simp
theorem look_last {m : List (List Nat × PyData)} {k : List Nat} {d : PyData} (hk : m.lookup k = none) : (m ++ [(k, d)]).lookup k = some d := by
  induction m with
  | nil => simp
  | cons p m ih =>
    rw [show p = (p.1, p.2) from rfl, List.lookup_cons] at hk
    rw [List.cons_append, show p = (p.1, p.2) from rfl, List.lookup_cons]
    cases h : k == p.1 with
    | true => rw [h] at hk; cases hk
    | false => rw [h] at hk; exact ih hk
theorem keys_last {m : List (List Nat × PyData)} {k : List Nat} {d : PyData} (hn : (m.map (·.1)).Nodup) (hk : m.lookup k = none) : ((m ++ [(k, d)]).map (·.1)).Nodup := by
  rw [List.map_append, List.nodup_append]
  refine ⟨hn, by simp, fun a ha b hb => ?_⟩
  simp only [List.map_cons, List.map_nil, List.mem_singleton] at hb
  subst hb
  rintro rfl
  have := lookup_some ha
  rw [hk] at this; cases this
section
variable {T : St} (G : GK T)
include G
theorem law_chain_by_spec {cs : List Int} (hc : cs.length ≤ 50) : Fun T 6 "_law_chain_by" [.d (.list (cs.map .int))] (.tuple [dictD (tabD (cs.foldl chStep (([], []), [])).1.1), dictD (plD (cs.foldl chStep (([], []), [])).1.2)]) := by
  refine Fun.defK G ["_law_cells"] ["_law_lines", "_law_places", "_law_last", "_law_cell", "_law_name", "_law_more"] (by k_is) (by k_is) (by k_is) (by walk_at "mBinds") (Prm.b Prm.nil) (by rfl) (by rfl) ⟨rfl, rfl, rfl⟩ (fun env he => ?_)
  walk_at "mDef"
  refine Ex.cons (Ex1.assignO (d := dictD []) EvF.dict0 rfl (by walk_at "mPut") (by walk_at "mLoc") (by walk_at "mR") (show Ex _ _ _ _ _ _ from ?_))
  refine Ex.cons (Ex1.assignO (d := dictD []) EvF.dict0 rfl (by walk_at "mPut") (by walk_at "mLoc") (by walk_at "mR") (show Ex _ _ _ _ _ _ from ?_))
  refine Ex.cons (Ex1.assign (d := .str (mkS [])) (by rw [← s6]; walk_at "m") (by walk_at "mPut") (by walk_at "mLoc") (by walk_at "mR") (show Ex _ _ _ _ _ _ from ?_))
  refine Ex.cons (Ex1.forI (items := cs.map .int) (fl := .b) (Itr.list (Ev.name (by walk_at "mMem")) (by intro _; walk_at "mR")) (by simp) (by walk_at "mLoc")
    (fun i Γ => ∃ t1 t2 t3, Γ = ([("_law_cells", some (.d (.list (cs.map .int)), .b)), ("_law_lines", some (.d (dictD (tabD ((cs.take i).foldl chStep (([], []), [])).1.1)), .o)), ("_law_places", some (.d (dictD (plD ((cs.take i).foldl chStep (([], []), [])).1.2)), .o)), ("_law_last", some (.d (.str (mkS ((cs.take i).foldl chStep (([], []), [])).2)), .c)), ("_law_cell", t1), ("_law_name", t2), ("_law_more", t3)] : Gm)) ⟨_, _, _, rfl⟩ (fun i d Γ hd hΓ => ?_) (fun Γ hΓ => ?_))
  · obtain ⟨t1, t2, t3, rfl⟩ := hΓ
    obtain ⟨c, hci, rfl⟩ : ∃ c, cs[i]? = some c ∧ d = .int c := by
      rw [List.getElem?_map] at hd
      obtain ⟨q, h1, h2⟩ := Option.map_eq_some_iff.mp hd
      exact ⟨q, h1, h2.symm⟩
    refine ⟨.c, _, .inr ⟨rfl, rfl⟩, by walk_at "mPut", ?_⟩
    have hfs : (cs.take (i + 1)).foldl chStep (([], []), []) = chStep ((cs.take i).foldl chStep (([], []), [])) c := by rw [List.take_succ, hci]; simp
    obtain ⟨I, hl1, hl2⟩ := CI.all (cs.take i) (([], []), []) CI.nil
    have hti : (cs.take i).length ≤ 50 := by rw [List.length_take]; omega
    generalize (cs.take i).foldl chStep (([], []), []) = S at hfs I hl1 hl2 ⊢
    obtain ⟨⟨tab, pm⟩, last⟩ := S
    simp only [List.length_nil, Nat.zero_add] at hl1 hl2 ⊢
    have hnD : ((tabD tab).map (·.1)).Nodup := by rw [tabD_keys]; exact I.ri.nodup
    have hkey : tab.map (·.1) = pm.map (·.1) := I.ri.keys
    have hnP : (pm.map (·.1)).Nodup := by rw [← hkey]; exact I.ri.nodup
    have hnPD : ((plD pm).map (·.1)).Nodup := by rw [plD_keys]; exact hnP
    have hlast : (∀ y ∈ last, IsSgn y) ∧ last.length ≤ 43 := by
      rcases I.last with h | h
      · have h' : last = [] := h
        subst h'; simp
      · have := I.ri.gd _ h
        exact ⟨this.2.2, this.2.1⟩
    refine Ex.cons (Ex1.assign (d := .str (mkS (nameBy (c / 5)))) (by walk_at "m") (by walk_at "mPut") (by walk_at "mLoc") (by walk_at "mR") (show Ex _ _ _ _ _ _ from ?_))
    refine Ex.cons (Ex1.assign (d := .str (mkS (nameBy (c / 7)))) (by walk_at "m") (by walk_at "mPut") (by walk_at "mLoc") (by walk_at "mR") (show Ex _ _ _ _ _ _ from ?_))
    have hbl : ((tabD tab).lookup (nameBy (c / 5))).isSome = (tab.lookup (nameBy (c / 5))).isSome := by rw [tabD_look, Option.isSome_map]
    have hmo := nameBy_gd (c / 7)
    refine Ex.cons (Ex1.ite (b := !((tabD tab).lookup (nameBy (c / 5))).isSome) (IsT.cmp (Ev.name (by walk_at "mMem")) (Ev.name (by walk_at "mMem")) (Cmp.ninD hnD) (by walk_at "mR")) (fun hb => ?_) (fun hb => ?_))
    · rw [hbl] at hb
      have hno : (tab.lookup (nameBy (c / 5))).isSome = false := by simpa using hb
      have hstep : chStep ((tab, pm), last) c = ((tab ++ [(nameBy (c / 5), chLine last (nameBy (c / 7)) c)], pm ++ [(nameBy (c / 5), chPlace pm last (nameBy (c / 7)) c)]), nameBy (c / 5)) := by
        unfold chStep; rw [if_neg (by simp only [hno]; decide)]
      rw [hstep] at hfs
      have hxt : tab.lookup (nameBy (c / 5)) = none := by simpa using hno
      have hxn : nameBy (c / 5) ∉ tab.map (·.1) := fun h => by have := lookup_some h; rw [hno] at this; cases this
      have hxD : (tabD tab).lookup (nameBy (c / 5)) = none := by rw [tabD_look, hxt]; rfl
      have hxP : (plD pm).lookup (nameBy (c / 5)) = none := by rw [plD_look, lookup_none (by rw [← hkey]; exact hxn)]; rfl
      have hPl : (PMf pm last).length ≤ 100000 := by
        rcases I.last with h | h
        · have h' : last = [] := h
          rw [h', show PMf pm [] = [] from PMf_nil I.ri]; simp
        · have h' := (I.ri.pgd last _ (PMf_mem (hkey ▸ h))).2
          simp only at h'
          omega
      have hgd : ((plD pm).lookup last).getD (.list []) = .list (PL (PMf pm last)) := by
        rw [plD_look]
        unfold PMf
        cases pm.lookup last <;> rfl
      generalize nameBy (c / 5) = x at hfs hno hxt hxn hxD hxP ⊢
      generalize nameBy (c / 7) = more at hfs hmo ⊢
      have hp1 := law_part_by_spec G (nm := last) (cell := 0) hlast.1 (by omega)
      have hp2 := law_part_by_spec G (nm := more) (cell := c % 64) hmo.2.2 (by have := hmo.2.1; omega)
      have hq1 := partL_len last 0
      have hq2 := partL_len more (c % 64)
      have hml := hmo.2.1
      have e0 : chLine0 last = (if (!decide (last = (Str.ofString "").cps.toList)) then (Str.ofString "@").cps.toList else []) ++ partL last 0 := by
        unfold chLine0; rw [s6, s3]
        by_cases h : last = [] <;> simp [h]
      have L0 : (chLine0 last).length ≤ 200 := by
        unfold chLine0; rw [List.length_append]; split <;> simp <;> omega
      refine Ex.cons (Ex1.setNew (m := tabD tab) (k := x) (d := .str (mkS (chLine0 last))) (by walk_at "mMem") (Ev.ofF ?_) (Ev.name (by walk_at "mMem")) hnD hxD ?_ (by walk_at "mPut") (by walk_at "mR") (show Ex _ _ _ _ _ _ from ?_))
      · rw [e0]
        refine EvF.bin (f₁ := .c) (f₂ := .c) (Ev.ofF (EvF.bin (f₁ := .c) (f₂ := .c) (Ev.ofF EvF.kS) (Ev.ofF (EvF.callB (xs := [(.d (.bool (!decide (last = (Str.ofString "").cps.toList))), .c)]) (by walk_at "mKd") (by walk_at "mR") (by walk_at "mG") (by walk_at "mB") (.inr ⟨_, rfl⟩) (EvA.cons (Ev.ofF (by walk_at "m")) EvA.nil (by walk_at "mR")) CallB.intB)) Bin.repS)) (Ev.ofF (EvF.fn (xs := [(.d (.str (mkS last)), .c), (.d (.int 0), .c)]) (by walk_at "mKd") (by walk_at "mR") (EvA.cons (Ev.name (by walk_at "mMem")) (EvA.cons (Ev.ofF EvF.kInt) EvA.nil (by walk_at "mR")) (by walk_at "mR")) hp1 (by omega))) (Bin.catS ?_)
        rw [sizeLine_is, s3]; split <;> simp <;> omega
      · rw [sizeLine_is]; unfold tabD; rw [List.length_map]; omega
      refine Ex.chain (b := chOn last c) (m := plD pm) (L := tabD tab ++ [(x, .str (mkS (chLine0 last)))]) (k := x) (k2 := x) (l := PL (PMf pm last)) (d2 := .str (mkS (chLine0 last ++ [47] ++ partL more (c % 64)))) (dm := .str (mkS more)) (by walk_at "mMem") (by walk_at "mPut") (by decide) (by unfold Env.kindOf; rw [he]; rfl) (by simp) ?_ (Ev.name (by walk_at "mMem")) hnPD hxP ?_ ?_ (by walk_at "mR") ?_ (fun ho => ⟨by decide, by walk_at "mMem", Ev.ofF ?_, Ev.name (by walk_at "mMem"), keys_last hnD hxD, ?_, by walk_at "mPut", by walk_at "mR", Ev.name (by walk_at "mMem"), Ev.name (by walk_at "mMem"), by intro _ _; walk_at "mR", by walk_at "mR", by walk_at "mR", by walk_at "mR", by walk_at "mR", by walk_at "mPut", ?_⟩) (fun ho => ⟨by walk_at "mPut", ?_⟩)
      · refine EvF.callB (xs := [(.d (.list (PL (PMf pm last))), .o)]) (by walk_at "mKd") (by walk_at "mR") (by walk_at "mG") (by walk_at "mB") (.inr ⟨_, rfl⟩) (EvA.cons ?_ EvA.nil (by walk_at "mR")) (CallB.listL (by rw [sizeLine_is, List.length_map]; omega) (.inr (still_PL _)))
        rw [← hgd]
        exact Ev.getD (Ev.name (by walk_at "mMem")) (Ev.name (by walk_at "mMem")) (Ev.ofF (EvF.listL EvL.nil (by decide))) hnPD (by walk_at "mR") (by walk_at "mR") (by walk_at "mR") (by walk_at "mR")
      · rw [sizeLine_is]; unfold plD; rw [List.length_map]; omega
      · rw [sizeLine_is, List.length_map]; omega
      · have e : chOn last c = (decide (last = (Str.ofString "").cps.toList) || (decide (c % 3 > 0) || false)) := by rw [s6]; simp [chOn]
        rw [e]
        walk_at "m"
      · rw [← s2]
        refine EvF.bin (f₁ := .c) (f₂ := .c) (Ev.ofF (EvF.bin (f₁ := .o) (f₂ := .c) (Ev.sub (Ev.name (by walk_at "mMem")) (Ev.name (by walk_at "mMem")) (Sub.dict (keys_last hnD hxD) (look_last hxD)) (by intro _ _; walk_at "mR")) (Ev.ofF EvF.kS) (Bin.catS ?_))) (Ev.ofF (EvF.fn (xs := [(.d (.str (mkS more)), .c), (.d (.int (c % 64)), .c)]) (by walk_at "mKd") (by walk_at "mR") (EvA.cons (Ev.name (by walk_at "mMem")) (EvA.cons (Ev.ofF (by walk_at "m")) EvA.nil (by walk_at "mR")) (by walk_at "mR")) hp2 (by omega))) (Bin.catS ?_)
        · rw [sizeLine_is, s2]; simp only [List.length_singleton]; omega
        · rw [sizeLine_is, s2]; simp only [List.length_append, List.length_singleton]; omega
      · rw [sizeLine_is]; unfold tabD; rw [List.length_append, List.length_map, List.length_singleton]; omega
      · rw [setM_last hxD]
        refine Ex.cons (Ex1.assign (d := .str (mkS x)) (by walk_at "m") (by walk_at "mPut") (by walk_at "mLoc") (by walk_at "mR") (show Ex _ _ _ _ _ _ from ?_))
        refine Ex.nil (show Ex _ _ _ _ _ _ from Ex.nil ⟨some (.d (.int c), .c), some (.d (.str (mkS x)), .c), some (.d (.str (mkS more)), .c), ?_⟩)
        rw [hfs]; simp only; rw [tabD_snoc, plD_snoc]
        unfold chLine chPlace; rw [if_pos ho, if_pos ho]
        rw [show PL (PMf pm last ++ [more]) = PL (PMf pm last) ++ [.str (mkS more)] from List.map_append ..]
      · refine Ex.cons (Ex1.assign (d := .str (mkS x)) (by walk_at "m") (by walk_at "mPut") (by walk_at "mLoc") (by walk_at "mR") (show Ex _ _ _ _ _ _ from ?_))
        refine Ex.nil (show Ex _ _ _ _ _ _ from Ex.nil ⟨some (.d (.int c), .c), some (.d (.str (mkS x)), .c), some (.d (.str (mkS more)), .c), ?_⟩)
        rw [hfs]; simp only; rw [tabD_snoc, plD_snoc]
        unfold chLine chPlace; rw [if_neg (by rw [ho]; decide), if_neg (by rw [ho]; decide), List.append_nil]
    · rw [hbl] at hb
      have hyes : (tab.lookup (nameBy (c / 5))).isSome = true := by simpa using hb
      have hstep : chStep ((tab, pm), last) c = ((tab, pm), last) := by unfold chStep; rw [if_pos hyes]
      rw [hstep] at hfs
      exact Ex.nil (show Ex _ _ _ _ _ _ from Ex.nil ⟨_, _, _, by rw [hfs]⟩)
  obtain ⟨t1, t2, t3, rfl⟩ := hΓ
  rw [List.length_map, List.take_length]
  refine (show Ex _ _ _ _ _ _ from ?_)
  refine Ex.freeze (x := "_law_lines") (by walk_at "mMem") (by walk_at "mPut") ?_
  refine Ex.freeze (x := "_law_places") (by walk_at "mMem") (by walk_at "mPut") ?_
  exact Ex.cons (Ex1.ret (EvF.tupleL (EvL.cons (Ev.name (by walk_at "mMem")) (EvL.cons (Ev.name (by walk_at "mMem")) EvL.nil (by walk_at "mR")) (by walk_at "mR")) (by rw [sizeLine_is]; simp)) rfl)
end
section
variable {T : St} (G : GK T)
include G
theorem law_told_by_spec {nms : List (List Nat)} {pm : PM} {p : List (List Nat)} (hnd : (pm.map (·.1)).Nodup) (hin : ∀ x ∈ nms, pm.lookup x = some (PMf pm x)) (hn : ∀ x ∈ nms, Gn x) (hp : ∀ x ∈ p, Gn x) (hl : p.length ≤ 2600) (hpa : ∀ x ∈ nms, ∀ y ∈ PMf pm x, Gn y) (hpl : ∀ x ∈ nms, (PMf pm x).length ≤ 100000) :
    Fun T 4 "_law_told_by" [.d (.list (PL nms)), .d (dictD (plD pm)), .d (.list (PL p))] (.str (mkS (tellL (PMf pm) p (bestF (PMf pm) p nms)))) := by
  have hpasc : ∀ x ∈ p, Asc x := fun x hx => (hp x hx).asc
  have Lp : (PL p).length = p.length := by simp
  have hnPD : ((plD pm).map (·.1)).Nodup := by rw [plD_keys]; exact hnd
  refine Fun.defK G ["_law_names", "_law_spots", "_law_place"] ["_law_best", "_law_size", "_law_name", "_law_spot"] (by k_is) (by k_is) (by k_is) (by walk_at "mBinds") (Prm.b (Prm.b (Prm.b Prm.nil))) (by rfl) (by rfl) ⟨rfl, rfl, rfl⟩ (fun env he => ?_)
  walk_at "mDef"
  refine Ex.cons (Ex1.assign (d := .str (mkS [])) (by rw [← s6]; walk_at "m") (by walk_at "mPut") (by walk_at "mLoc") (by walk_at "mR") (show Ex _ _ _ _ _ _ from ?_))
  refine Ex.cons (Ex1.assign (d := .int 0) EvF.kInt (by walk_at "mPut") (by walk_at "mLoc") (by walk_at "mR") (show Ex _ _ _ _ _ _ from ?_))
  refine Ex.cons (Ex1.forI (items := PL nms) (fl := .b) (Itr.list (Ev.name (by walk_at "mMem")) (by intro _; walk_at "mR")) (by simp) (by walk_at "mLoc")
    (fun i Γ => ∃ sl sl', Γ = ([("_law_names", some (.d (.list (PL nms)), .b)), ("_law_spots", some (.d (dictD (plD pm)), .b)), ("_law_place", some (.d (.list (PL p)), .b)), ("_law_best", some (.d (.str (mkS (toldB (PMf pm) p ((nms.take i).foldl (bStep (PMf pm) p) (none, 0))))), .c)), ("_law_size", some (.d (.int (((nms.take i).foldl (bStep (PMf pm) p) (none, 0)).2 : Nat)), .c)), ("_law_name", sl), ("_law_spot", sl')] : Gm)) ⟨_, _, rfl⟩ (fun i d Γ hd hΓ => ?_) (fun Γ hΓ => ?_))
  · obtain ⟨sl, sl', rfl⟩ := hΓ
    obtain ⟨x, hx, rfl⟩ : ∃ x, nms[i]? = some x ∧ d = .str (mkS x) := by
      rw [List.getElem?_map] at hd
      obtain ⟨q, h1, h2⟩ := Option.map_eq_some_iff.mp hd
      exact ⟨q, h1, h2.symm⟩
    have hxm := List.mem_of_getElem? hx
    refine ⟨.c, _, .inr ⟨rfl, rfl⟩, by walk_at "mPut", ?_⟩
    have hfs : (nms.take (i + 1)).foldl (bStep (PMf pm) p) (none, 0) = bStep (PMf pm) p ((nms.take i).foldl (bStep (PMf pm) p) (none, 0)) x := by rw [List.take_succ, hx]; simp
    generalize (nms.take i).foldl (bStep (PMf pm) p) (none, 0) = b at hfs ⊢
    have hqB := hpl x hxm
    have hqa : ∀ y ∈ PMf pm x, Asc y := fun y hy => (hpa x hxm y hy).asc
    have hlk : (plD pm).lookup x = some (.list (PL (PMf pm x))) := by rw [plD_look, hin x hxm]; rfl
    have hgx := hn x hxm
    have hdx := law_due_spec G (nm := x) (by have := hgx.2.1; omega)
    have hlx := wr_len x
    have hgl := hgx.2.1
    refine Ex.cons (Ex1.assignV (fl := .b) (v := .d (.list (PL (PMf pm x)))) (Ev.sub (Ev.name (by walk_at "mMem")) (Ev.name (by walk_at "mMem")) (Sub.dict hnPD hlk) (by intro _ _; walk_at "mR")) (by simp) (by walk_at "mPut") (by walk_at "mLoc") (by walk_at "mR") (show Ex _ _ _ _ _ _ from ?_))
    have hT : ∀ b', toldB (PMf pm) p b' = toldB (PMf pm) p b' := fun _ => rfl
    have hbs : bStep (PMf pm) p b x = (if b.2 < (PMf pm x).length ∧ p.take (PMf pm x).length = PMf pm x then (some x, (PMf pm x).length) else b) := rfl
    have htb : toldB (PMf pm) p (some x, (PMf pm x).length) = (Str.ofString "@").cps.toList ++ wr x ++ (if decide ((((PL (PMf pm x)).length : Nat) : Int) < ((PL p).length : Nat)) then (Str.ofString "/").cps.toList else []) := by
      rw [s3, s2]
      show 64 :: wr x ++ (if (PMf pm x).length < p.length then [47] else []) = _
      rw [Lp, show (PL (PMf pm x)).length = (PMf pm x).length by simp]
      by_cases h : (PMf pm x).length < p.length
      · rw [if_pos h, if_pos (by simpa using h)]; rfl
      · rw [if_neg h, if_neg (by simpa using h)]; rfl
    have Lo : (PL (PMf pm x)).length = (PMf pm x).length := by simp
    have hcut : pyCut none (some ((PL (PMf pm x)).length : Int)) (PL p) = PL (p.take (PMf pm x).length) := by rw [cut_to, Lo]; exact (List.map_take ..).symm
    refine Ex.cons (Ex1.ite (b := decide (b.2 < (PMf pm x).length ∧ p.take (PMf pm x).length = PMf pm x)) ?_ (fun h => ?_) (fun h => ?_))
    · have e : decide (b.2 < (PMf pm x).length ∧ p.take (PMf pm x).length = PMf pm x) = (decide (((PL (PMf pm x)).length : Int) > ((b.2 : Nat) : Int)) && (decide (p.take (PMf pm x).length = PMf pm x) && true)) := by
        rw [Lo, Bool.eq_iff_iff]; simp
      rw [e]
      clear hbs htb hfs
      generalize PMf pm x = own at *
      refine IsT.and (by walk_at "m") (fun _ => IsT.and ?_ fun _ => IsT.andNil)
      refine IsT.cmp (f₁ := .c) (f₂ := .b) (v₁ := .d (.list (PL (p.take own.length)))) (v₂ := .d (.list (PL own))) (Ev.ofF ?_) (Ev.name (by walk_at "mMem")) (Cmp.eqPL (fun y hy => hpasc y (List.mem_of_mem_take hy)) hqa) (by walk_at "mR")
      rw [← hcut]
      walk_at "m"
    · have h' := of_decide_eq_true h
      rw [if_pos h'] at hbs
      rw [hbs] at hfs
      refine Ex.cons (Ex1.assign (d := .str (mkS (toldB (PMf pm) p (some x, (PMf pm x).length)))) ?_ (by walk_at "mPut") (by walk_at "mLoc") (by walk_at "mR") (show Ex _ _ _ _ _ _ from ?_))
      · rw [htb]
        clear hbs htb hfs hT
        generalize PMf pm x = own at *
        refine EvF.bin (f₁ := .c) (f₂ := .c) (Ev.ofF (EvF.bin (f₁ := .c) (f₂ := .c) (Ev.ofF EvF.kS) (Ev.ofF (EvF.fn (xs := [(.d (.str (mkS x)), .c)]) (by walk_at "mKd") (by walk_at "mR") (EvA.cons (Ev.name (show _ ∈ _ from by walk_at "mMem")) EvA.nil (by walk_at "mR")) hdx (by omega))) (Bin.catS ?_))) (Ev.ofF (EvF.bin (f₁ := .c) (f₂ := .c) (Ev.ofF EvF.kS) (Ev.ofF (EvF.callB (xs := [(.d (.bool (decide ((((PL own).length : Nat) : Int) < ((PL p).length : Nat)))), .c)]) (by walk_at "mKd") (by walk_at "mR") (by walk_at "mG") (by walk_at "mB") (.inr ⟨_, rfl⟩) (EvA.cons (Ev.ofF (by walk_at "m")) EvA.nil (by walk_at "mR")) CallB.intB)) Bin.repS)) (Bin.catS ?_)
        · rw [sizeLine_is, s3]; simp only [List.length_singleton]; omega
        · rw [sizeLine_is, s3, s2]; simp only [List.length_append, List.length_singleton]; split <;> simp <;> omega
      refine Ex.cons (Ex1.assign (d := .int ((PL (PMf pm x)).length : Nat)) (by walk_at "m") (by walk_at "mPut") (by walk_at "mLoc") (by walk_at "mR") (show Ex _ _ _ _ _ _ from ?_))
      exact Ex.nil (show Ex _ _ _ _ _ _ from Ex.nil ⟨_, _, by rw [hfs, Lo]⟩)
    · have h' := of_decide_eq_false h
      rw [if_neg h'] at hbs
      rw [hbs] at hfs
      exact Ex.nil (show Ex _ _ _ _ _ _ from Ex.nil ⟨_, _, by rw [hfs]⟩)
  obtain ⟨sl, sl', rfl⟩ := hΓ
  rw [show (PL nms).length = nms.length by simp, List.take_length]
  rw [told_is fun x _ => best_pos nms (none, 0) (by simp) x]
  show Ex _ _ _ [("_law_names", _), ("_law_spots", _), ("_law_place", _), ("_law_best", some (.d (.str (mkS (toldB (PMf pm) p (bestF (PMf pm) p nms)))), .c)), ("_law_size", some (.d (.int ((bestF (PMf pm) p nms).2 : Nat)), .c)), ("_law_name", sl), ("_law_spot", sl')] _ _
  have hb := bestF_ok (ref := PMf pm) (p := p) (nms := nms)
  generalize bestF (PMf pm) p nms = b at hb ⊢
  have hTl : (toldB (PMf pm) p b).length ≤ 200 := by
    rcases hb with rfl | ⟨x, hx, rfl, _⟩
    · simp [toldB]
    · have h1 := wr_len x
      have h2 := (hn x hx).2.1
      show (64 :: wr x ++ (if (PMf pm x).length < p.length then [47] else [])).length ≤ 200
      rw [List.length_append, List.length_cons]; split <;> simp <;> omega
  clear hb
  obtain ⟨bx, size⟩ := b
  simp only at *
  generalize toldB (PMf pm) p (bx, size) = best at hTl ⊢
  refine Ex.cons (Ex1.mono (Q := fun f Γ => f = .next ∧ Γ = ([("_law_names", some (.d (.list (PL nms)), .b)), ("_law_spots", some (.d (dictD (plD pm)), .b)), ("_law_place", some (.d (.list (PL p)), .b)), ("_law_best", some (.d (.str (mkS (if size = 0 then [47] else best))), .c)), ("_law_size", some (.d (.int (size : Nat)), .c)), ("_law_name", sl), ("_law_spot", sl')] : Gm)) (Ex1.ite (b := ((size : Nat) : Int) == 0) (by walk_at "m") (fun h => ?_) (fun h => ?_)) ?_)
  · have h0 : size = 0 := by simpa using h
    refine Ex.cons (Ex1.assign (d := .str (mkS [47])) (by rw [← s2]; walk_at "m") (by walk_at "mPut") (by walk_at "mLoc") (by walk_at "mR") (show Ex _ _ _ _ _ _ from ?_))
    exact Ex.nil ⟨rfl, by rw [if_pos h0]⟩
  · have h0 : size ≠ 0 := by simpa using h
    exact Ex.nil ⟨rfl, by rw [if_neg h0]⟩
  rintro f Γ ⟨rfl, rfl⟩
  refine (show Ex _ _ _ _ _ _ from ?_)
  have hB : (if size = 0 then [47] else best).length ≤ 200 := by
    split
    · simp
    · exact hTl
  generalize (if size = 0 then [47] else best) = best' at hB ⊢
  have hdg : ∀ y ∈ p.drop size, Gn y := fun y hy => hp y (List.mem_of_mem_drop hy)
  have hdl : (p.drop size).length ≤ 2600 := by rw [List.length_drop]; omega
  have hf := icat_fits G hdg hdl
  refine Ex.cons (Ex1.ret (d := .str (mkS (best' ++ List.intercalate [47] ((p.drop size).map wr)))) ?_ rfl)
  rw [← s2] at hf ⊢
  refine EvF.bin (f₁ := .c) (f₂ := .c) (Ev.name (by walk_at "mMem")) (Ev.ofF (EvF.meth (xs := [(.d (.list (PL ((p.drop size).map wr))), .c)]) (Ev.ofF EvF.kS) (EvA.cons (Ev.ofF (wr_comp G (k := 3) (fl := .c) (fun y hy => law_due_spec G (by have := (hdg y hy).2.1; omega)) (by omega) (by omega) (Itr.list (Ev.ofF ?_) (by intro _; walk_at "mR")) (okComp_ok he rfl rfl) (fun _ _ => rfl) (by walk_at "mR") (by decide +kernel) (fun _ => by walk_at "mR"))) EvA.nil (by walk_at "mR")) (Meth.join hf.1) (by walk_at "mR") (by walk_at "mR") (by walk_at "mR"))) (Bin.catS ?_)
  · rw [show PL (p.drop size) = pyCut (some (size : Int)) none (PL p) by rw [pyCut_from _ _ (by omega), Int.toNat_natCast]; exact List.map_drop ..]
    walk_at "m"
  · have := hf.2
    rw [sizeLine_is]; omega
end
def nearC (ns : List Int) (start many : Nat) : List Int := (List.range many).map fun k : Nat => ns.getD (start + k) 0
theorem nearC_len (ns : List Int) (start many : Nat) : (nearC ns start many).length = many := by simp [nearC]
def faC (a f : Int) (many : Nat) : List Int := (List.range many).map fun k : Nat => a + f * (k : Int) * (k : Int)
theorem faC_len (a f : Int) (many : Nat) : (faC a f many).length = many := by simp [faC]
def faF (a f : Int) : PyData → PyData
  | .int k => .int (a + f * k * k)
  | d => d
theorem near_all (ns : List Int) (start many : Nat) : List.map (nearF ns start) (List.filter (fun _ => true) (rangeD many)) = (nearC ns start many).map .int := by
  unfold rangeD; rw [map_all']; simp [nearF, nearC]; intros; congr 1
theorem far_all (a f : Int) (many : Nat) : List.map (faF a f) (List.filter (fun _ => true) (rangeD many)) = (faC a f many).map .int := by
  unfold rangeD; rw [map_all']; simp [faF, faC]
theorem cut_map {α β : Type} (f : α → β) (lo hi : Option Int) (l : List α) : pyCut lo hi (l.map f) = (pyCut lo hi l).map f := by
  unfold pyCut; rw [List.length_map, List.map_take, List.map_drop]
theorem cut_mem {α : Type} {lo hi : Option Int} {l : List α} {x : α} (h : x ∈ pyCut lo hi l) : x ∈ l := by
  unfold pyCut at h; exact List.mem_of_mem_drop (List.mem_of_mem_take h)
theorem RI.same {S : Tab × PM} (I : RI S) (c : Int) : ∀ x ∈ (mixT c S.1).map (·.1), PMf (loopF (mixT c S.1).length (rowsOf (mixT c S.1)) []) x = PMf S.2 x := fun x hx => by
  have hp := mixT_perm c I.nodup
  have L := loop_look (I.acy hp)
  rw [rowsOf_keys, show (rowsOf (mixT c S.1)).length = (mixT c S.1).length from List.length_map ..] at L
  rw [PMf, L.1 x hx]; rfl
local macro_rules | `(tactic| walk_at "mC") => `(tactic| (with_reducible assumption))
section
variable {T : St} (G : GK T)
include G
theorem near_cells {n : Nat} {env : Env} {sc : Scope} {Γ : Gm} {ns : List Int} {many : Nat} {cs : List Int} {f : PyData → PyData} {elt iter : PySem.Expr} {px pos : Pos} {scope : Scope} (he : env.scope = sc) (hm : many ≤ 60) (hmem : ((("_law_script" : Str), (some (Vl.d (.list (ns.map .int)), Fl.b) : Slot)) ∈ Γ))
    (hok : okComp scope sc "_law_k" = true) (hk : scope.kind = .function) (hfree : scope.names.lookup ("_law_script" : Str) = some .free) (hi : Itr T n env Γ iter (rangeD many) .c) (hf : List.map f (List.filter (fun _ => true) (rangeD many)) = cs.map .int)
    (helt : ∀ C cl (k : Nat), k < many → EvF T n (compEnvC scope cl C env) [("_law_k", some (.d (.int (k : Int)), .c)), ("_law_script", some (.d (.list (ns.map .int)), .b))] elt (f (.int (k : Int)))) :
    EvF T n env Γ (.ListComp elt [⟨.Name "_law_k" px, iter, [], 0⟩] scope pos) (.list (cs.map .int)) := by
  refine EvF.cast (EvF.comp (Γv := [("_law_script", some (.d (.list (ns.map .int)), .b))]) (p := fun _ => true) (f := f) (items := rangeD many) (fl := .c) hi ?_ ?_ ?_ ?_ ?_ ?_) (congrArg PyData.list hf)
  · exact okComp_ok he hk hok
  · intro q hq
    simp only [List.mem_cons, List.not_mem_nil, or_false] at hq
    subst hq; exact ⟨hmem, hfree⟩
  · exact okNames_ok rfl
  · rw [rangeD_length, sizeLine_is]; omega
  · exact fun _ _ _ _ => rfl
  · intro C cl d hd _
    obtain ⟨k, hk1⟩ := List.getElem?_of_mem hd
    obtain ⟨hk2, rfl⟩ := rangeD_get hk1
    exact helt C cl k hk2
theorem set_cells {n : Nat} {env : Env} {sc : Scope} {Γ Γ' : Gm} {Q : Fw → Gm → Prop} {ns : List Int} {many : Nat} {cs : List Int} {f : PyData → PyData} {elt iter : PySem.Expr} {y : Str} {px py pos spos : Pos} {scope : Scope} (he : env.scope = sc) (hm : many ≤ 60) (hmem : ((("_law_script" : Str), (some (Vl.d (.list (ns.map .int)), Fl.b) : Slot)) ∈ Γ))
    (hok : okComp scope sc "_law_k" = true) (hk : scope.kind = .function) (hfree : scope.names.lookup ("_law_script" : Str) = some .free) (hi : Itr T n env Γ iter (rangeD many) .c) (hf : List.map f (List.filter (fun _ => true) (rangeD many)) = cs.map .int)
    (helt : ∀ C cl (k : Nat), k < many → EvF T n (compEnvC scope cl C env) [("_law_k", some (.d (.int (k : Int)), .c)), ("_law_script", some (.d (.list (ns.map .int)), .b))] elt (f (.int (k : Int))))
    (hp : Put Γ y (some (.d (.list (cs.map .int)), .c)) Γ') (hky : env.kindOf y = some .local ∨ env.kindOf y = some .cell) (hsw : swapsWith (.ListComp elt [⟨.Name "_law_k" px, iter, [], 0⟩] scope pos) (some (.Name y py)) spos.line env = pure true) (hq : Q .next Γ') :
    Ex1 T n env Γ (.Assign [.Name y py] (.ListComp elt [⟨.Name "_law_k" px, iter, [], 0⟩] scope pos) spos) Q := by
  refine Ex1.assignComp (fl' := .c) (.inl rfl) (Γv := [("_law_script", some (.d (.list (ns.map .int)), .b))]) (p := fun _ => true) (f := f) (items := rangeD many) (fl := .c) hi ?_ ?_ ?_ ?_ ?_ ?_ (by rw [hf]; exact hp) hky hsw hq
  · exact okComp_ok he hk hok
  · intro q hq
    simp only [List.mem_cons, List.not_mem_nil, or_false] at hq
    subst hq; exact ⟨hmem, hfree⟩
  · exact okNames_ok rfl
  · rw [rangeD_length, sizeLine_is]; omega
  · exact fun _ _ _ _ => rfl
  · intro C cl d hd _
    obtain ⟨k, hk1⟩ := List.getElem?_of_mem hd
    obtain ⟨hk2, rfl⟩ := rangeD_get hk1
    exact helt C cl k hk2
end
local macro_rules | `(tactic| walk_at "mC") => `(tactic| exact law_of_spec (by assumption) (by assumption) (by omega))
section
variable {T : St} (G : GK T)
include G
theorem law_spec {ns : List Int} (hns : ns.length ≤ 63) : FunT T 7 "law" [.d (.list (ns.map .int))] (.bool true) := by
  refine FunT.defK G ["_law_script"] ["_law_first", "_law_cells", "_law_made", "_law_table", "_law_names", "_law_second", "_law_place", "_law_spot", "_law_shares", "_law_one", "_law_handed", "_law_found"] (by k_is) (by k_is) (by k_is) (by walk_at "mBinds") (by walk_at "mPrm") (by rfl) (by rfl) ⟨rfl, rfl, rfl⟩ (fun env he => ?_)
  walk_at "mDef"
  refine ExX.of ?_
  refine Ex.cons (Ex1.assign (d := .int (ns.getD (Int.toNat 0) 0)) (by walk_at "m") (by walk_at "mPut") (by walk_at "mLoc") (by walk_at "mR") (show Ex _ _ _ _ _ _ from ?_))
  generalize ns.getD (Int.toNat 0) 0 = first
  have hlen := nearC_len ns 6 (first % 7).toNat
  refine Ex.cons (set_cells G (many := (first % 7).toNat) (cs := nearC ns 6 (first % 7).toNat) (f := nearF ns 6) he (by omega) (by walk_at "mMem") rfl rfl rfl (by walk_at "mItr") (near_all ..) (fun C cl k hk => by show EvF _ _ _ _ _ (.int (ns.getD (Int.toNat ((6 : Int) + (k : Int))) 0)); walk_at "m") (by walk_at "mPut") (by walk_at "mLoc") (by unfold swapsWith Env.blockKind Env.kindOf; rw [he]; rfl) (show Ex _ _ _ _ _ _ from ?_))
  refine Ex.cons (Ex1.mono (Q := fun f Γ => f = .next ∧ ∃ cs : List Int, cs.length ≤ 40 ∧ Γ = ([("_law_script", some (.d (.list (ns.map .int)), .b)), ("_law_first", some (.d (.int first), .c)), ("_law_cells", some (.d (.list (cs.map .int)), .c)), ("_law_made", none), ("_law_table", none), ("_law_names", none), ("_law_second", none), ("_law_place", none), ("_law_spot", none), ("_law_shares", none), ("_law_one", none), ("_law_handed", none), ("_law_found", none)] : Gm)) (Ex1.ite (b := first / 14 % 8 == 1) (by walk_at "m") (fun hb => ?_) (fun _ => ?_)) ?_)
  · refine Ex.cons (set_cells G (many := Int.toNat 40) (cs := faC (ns.getD (Int.toNat 6) 0) 17 (Int.toNat 40)) (f := faF (ns.getD (Int.toNat 6) 0) 17) he (by omega) (by walk_at "mMem") rfl rfl rfl (by walk_at "mItr") (far_all ..) (fun C cl k hk => by show EvF _ _ _ _ _ (.int (ns.getD (Int.toNat 6) 0 + 17 * (k : Int) * (k : Int))); walk_at "m") (by walk_at "mPut") (by walk_at "mLoc") (by unfold swapsWith Env.blockKind Env.kindOf; rw [he]; rfl) (show Ex _ _ _ _ _ _ from ?_))
    exact Ex.nil ⟨rfl, _, by rw [faC_len]; omega, rfl⟩
  · exact Ex.nil ⟨rfl, _, by omega, rfl⟩
  rintro f Γ ⟨rfl, cs, hcs, rfl⟩
  refine (show Ex _ _ _ _ _ _ from ?_)
  clear hlen
  have hrb := law_rows_by_spec G (cs := cs) (by omega)
  refine Ex.cons (Ex1.assign (d := .tuple [dictD (tabD (cs.foldl rowStep ([], [])).1), dictD (plD (cs.foldl rowStep ([], [])).2)]) (EvF.fn (xs := [(.d (.list (cs.map .int)), .c)]) (by walk_at "mKd") (by walk_at "mR") (EvA.cons (Ev.name (by walk_at "mMem")) EvA.nil (by walk_at "mR")) hrb (by omega)) (by walk_at "mPut") (by walk_at "mLoc") (by walk_at "mR") (show Ex _ _ _ _ _ _ from ?_))
  clear hrb
  refine Ex.cons (Ex1.mono (Q := fun f Γ => f = .next ∧ ∃ S : Tab × PM, (RI S ∧ S.1.length ≤ 40 ∧ S.2.length ≤ 40) ∧ Γ = ([("_law_script", some (.d (.list (ns.map .int)), .b)), ("_law_first", some (.d (.int first), .c)), ("_law_cells", some (.d (.list (cs.map .int)), .c)), ("_law_made", some (.d (.tuple [dictD (tabD S.1), dictD (plD S.2)]), .c)), ("_law_table", none), ("_law_names", none), ("_law_second", none), ("_law_place", none), ("_law_spot", none), ("_law_shares", none), ("_law_one", none), ("_law_handed", none), ("_law_found", none)] : Gm)) (Ex1.ite (b := [PyData.int 2, .int 3, .int 4].any fun y => PyData.eqv y (.int (first / 14 % 8))) (IsT.cmp (f₁ := .c) (f₂ := .c) (v₁ := .d (.int (first / 14 % 8))) (v₂ := .d (.list [.int 2, .int 3, .int 4])) (Ev.ofF (by walk_at "m")) (Ev.ofF (EvF.listL (EvL.cons (Ev.ofF EvF.kInt) (EvL.cons (Ev.ofF EvF.kInt) (EvL.cons (Ev.ofF EvF.kInt) EvL.nil (by walk_at "mR")) (by walk_at "mR")) (by walk_at "mR")) (by rw [sizeLine_is]; simp))) (Cmp.inData rfl rfl (by simp [PyData.depth])) (by walk_at "mR")) (fun hb => ?_) (fun _ => ?_)) ?_)
  · have hcb := law_chain_by_spec G (cs := cs) (by omega)
    obtain ⟨I, hl1, hl2⟩ := CI.all cs (([], []), []) CI.nil
    refine Ex.cons (Ex1.assign (d := .tuple [dictD (tabD (cs.foldl chStep (([], []), [])).1.1), dictD (plD (cs.foldl chStep (([], []), [])).1.2)]) (EvF.fn (xs := [(.d (.list (cs.map .int)), .c)]) (by walk_at "mKd") (by walk_at "mR") (EvA.cons (Ev.name (by walk_at "mMem")) EvA.nil (by walk_at "mR")) hcb (by omega)) (by walk_at "mPut") (by walk_at "mLoc") (by walk_at "mR") (show Ex _ _ _ _ _ _ from ?_))
    simp only [List.length_nil, Nat.zero_add] at hl1 hl2
    exact Ex.nil ⟨rfl, _, ⟨I.ri, by omega, by omega⟩, rfl⟩
  · obtain ⟨I, hl1, hl2⟩ := RI.all cs ([], []) RI.nil
    simp only [List.length_nil, Nat.zero_add] at hl1 hl2
    exact Ex.nil ⟨rfl, _, ⟨I, by omega, by omega⟩, rfl⟩
  rintro f Γ ⟨rfl, ⟨tab, pm⟩, ⟨I, hl1, hl2⟩, rfl⟩
  refine (show Ex _ _ _ _ _ _ from ?_)
  simp only at hl1 hl2 ⊢
  have hnD : ((tabD tab).map (·.1)).Nodup := by rw [tabD_keys]; exact I.nodup
  have hkey : tab.map (·.1) = pm.map (·.1) := I.keys
  have hnP : (pm.map (·.1)).Nodup := by rw [← hkey]; exact I.nodup
  have m0 : [dictD (tabD tab), dictD (plD pm)][Int.toNat 0]? = some (dictD (tabD tab)) := rfl
  have m1 : [dictD (tabD tab), dictD (plD pm)][Int.toNat 1]? = some (dictD (plD pm)) := rfl
  have hmx := law_mixed_spec G (tab := tab) (c := first / 7) I.nodup (by omega)
  refine Ex.cons (Ex1.assign (d := dictD (tabD (mixT (first / 7) tab))) (EvF.fn (xs := [(.d (dictD (tabD tab)), .c), (.d (.int (first / 7)), .c)]) (by walk_at "mKd") (by walk_at "mR") (EvA.cons (Ev.sub (Ev.name (by walk_at "mMem")) (Ev.ofF EvF.kInt) (Sub.tuple (by omega) (by omega) m0) (by intro _ _; walk_at "mR")) (EvA.cons (Ev.ofF (by walk_at "m")) EvA.nil (by walk_at "mR")) (by walk_at "mR")) hmx (by omega)) (by walk_at "mPut") (by walk_at "mLoc") (by walk_at "mR") (show Ex _ _ _ _ _ _ from ?_))
  clear hmx
  have hSh := I.shares (by simp only; omega) (by simp only; omega) (first / 7)
  have hsame := I.same (first / 7)
  have hperm := mixT_perm (first / 7) (tab := tab) I.nodup
  have hin := init_spec G (tab := mixT (first / 7) tab) (I.acy hperm) (fun x l hx => by
    have h := I.line x l (hperm.mem_iff.mp hx)
    exact ⟨h.1, h.2.1, by have := h.2.2; omega⟩) (fun x hx => by
    have h : (PMf pm x).length ≤ 61 * pm.length := (I.ref (by simp only; omega) ((hperm.map (·.1)).mem_iff.mp hx)).2
    show (PMf pm x).length ≤ 10000
    omega) (by rw [hperm.length_eq]; omega)
  have hmem : ∀ x ∈ (mixT (first / 7) tab).map (·.1), x ∈ tab.map (·.1) := fun x hx => (hperm.map (·.1)).mem_iff.mp hx
  have hnL : ((tabD (mixT (first / 7) tab)).map (·.1)).Nodup := by rw [tabD_keys, mixT_keys]; exact (mixF_perm _ _).nodup_iff.mpr I.nodup
  have hLl : (mixT (first / 7) tab).length ≤ 40 := by rw [hperm.length_eq]; exact hl1
  simp only at hSh hsame
  generalize mixT (first / 7) tab = L at hSh hsame hin hmem hnL hLl ⊢
  refine Ex.cons (Ex1.assign (d := .list (PL (L.map (·.1)))) (EvF.callB (xs := [(.d (dictD (tabD L)), .c)]) (by walk_at "mKd") (by walk_at "mR") (by walk_at "mG") (by walk_at "mB") (.inr ⟨_, rfl⟩) (EvA.cons (Ev.name (by walk_at "mMem")) EvA.nil (by walk_at "mR")) (by rw [← tabD_keys]; exact CallB.listD hnL (by rw [sizeLine_is]; unfold tabD; rw [List.length_map]; omega))) (by walk_at "mPut") (by walk_at "mLoc") (by walk_at "mR") (show Ex _ _ _ _ _ _ from ?_))
  refine Ex.cons (Ex1.assign (d := .int (ns.getD (Int.toNat 1) 0)) (by walk_at "m") (by walk_at "mPut") (by walk_at "mLoc") (by walk_at "mR") (show Ex _ _ _ _ _ _ from ?_))
  generalize ns.getD (Int.toNat 1) 0 = second
  have hlen2 := nearC_len ns 2 (second % 5).toNat
  have hpb := law_place_by_spec G (cells := nearC ns 2 (second % 5).toNat) (by omega)
  refine Ex.cons (Ex1.assign (d := .list (PL ((nearC ns 2 (second % 5).toNat).map nameBy))) (EvF.fn (xs := [(.d (.list ((nearC ns 2 (second % 5).toNat).map .int)), .c)]) (by walk_at "mKd") (by walk_at "mR") (EvA.cons (Ev.ofF (near_cells G (many := (second % 5).toNat) (f := nearF ns 2) he (by omega) (by walk_at "mMem") rfl rfl rfl (by walk_at "mItr") (near_all ..) (fun C cl k hk => by show EvF _ _ _ _ _ (.int (ns.getD (Int.toNat ((2 : Int) + (k : Int))) 0)); walk_at "m"))) EvA.nil (by walk_at "mR")) hpb (by omega)) (by walk_at "mPut") (by walk_at "mLoc") (by walk_at "mR") (show Ex _ _ _ _ _ _ from ?_))
  have hp0 : ∀ x ∈ (nearC ns 2 (second % 5).toNat).map nameBy, Gn x := fun x hx => by
    obtain ⟨c, _, rfl⟩ := List.mem_map.mp hx; exact nameBy_gd c
  have hp0l : ((nearC ns 2 (second % 5).toNat).map nameBy).length ≤ 4 := by rw [List.length_map, hlen2]; omega
  generalize (nearC ns 2 (second % 5).toNat).map nameBy = p0 at hp0 hp0l ⊢
  clear hpb hlen2
  have Ln : (PL (L.map (·.1))).length = L.length := by simp
  have Lp0 : (PL p0).length = p0.length := by simp
  refine Ex.cons (Ex1.mono (Q := fun f Γ => f = .next ∧ ∃ (p : List (List Nat)) (sp : Slot), (∀ x ∈ p, Gn x) ∧ p.length ≤ 2500 ∧ Γ = ([("_law_script", some (.d (.list (ns.map .int)), .b)), ("_law_first", some (.d (.int first), .c)), ("_law_cells", some (.d (.list (cs.map .int)), .c)), ("_law_made", some (.d (.tuple [dictD (tabD tab), dictD (plD pm)]), .c)), ("_law_table", some (.d (dictD (tabD L)), .c)), ("_law_names", some (.d (.list (PL (L.map (·.1)))), .c)), ("_law_second", some (.d (.int second), .c)), ("_law_place", some (.d (.list (PL p)), .c)), ("_law_spot", sp), ("_law_shares", none), ("_law_one", none), ("_law_handed", none), ("_law_found", none)] : Gm)) (Ex1.ite (b := (decide (((PL (L.map (·.1))).length : Int) > 0) && (decide (second / 5 % 3 > 0) && true))) (by walk_at "m") (fun hb => ?_) (fun _ => ?_)) ?_)
  · have ht0 : 0 < L.length := by
      rw [Ln] at hb
      simp only [Bool.and_eq_true, decide_eq_true_eq] at hb
      omega
    have h1 := Int.emod_nonneg (second / 15) (b := (L.length : Int)) (by omega)
    have h2 := Int.emod_lt_of_pos (second / 15) (b := (L.length : Int)) (by omega)
    obtain ⟨x, hx⟩ : ∃ x, (L.map (·.1))[(second / 15 % (L.length : Int)).toNat]? = some x := ⟨_, List.getElem?_eq_getElem (by rw [List.length_map]; omega)⟩
    have hxm := hmem x (List.mem_of_getElem? hx)
    have hi : (PL (L.map (·.1)))[(second / 15 % (L.length : Int)).toNat]? = some (.str (mkS x)) := by rw [List.getElem?_map, hx]; rfl
    obtain ⟨r1, r2⟩ := I.ref (by simp only; omega) hxm
    have hlk : (plD pm).lookup x = some (.list (PL (PMf pm x))) := by
      rw [plD_look, lookup_nodup hnP (PMf_mem (hkey ▸ hxm))]; rfl
    simp only at r1 r2
    refine Ex.cons (Ex1.assignV (fl := .c) (v := .d (.list (PL (PMf pm x)))) (Ev.sub (Ev.sub (Ev.name (by walk_at "mMem")) (Ev.ofF EvF.kInt) (Sub.tuple (by omega) (by omega) m1) (by intro _ _; walk_at "mR")) (Ev.sub (Ev.name (by walk_at "mMem")) (Ev.ofF (d := .int (second / 15 % (L.length : Int))) ?_) (Sub.list h1 (by omega) hi) (by intro _ _; walk_at "mR")) (Sub.dict (by rw [plD_keys]; exact hnP) hlk) (by intro _ _; walk_at "mR")) (by simp) (by walk_at "mPut") (by walk_at "mLoc") (by walk_at "mR") (show Ex _ _ _ _ _ _ from ?_))
    · rw [← Ln]
      walk_at "m"
    generalize PMf pm x = spot at r1 r2 ⊢
    have Lr : (PL spot).length = spot.length := by simp
    have c1 := pyCut_le none (some (((PL spot).length : Int) - second / 105 % 2)) spot
    have c2 := pyCut_le none (some (second % 4)) p0
    have d1 := pyCut_le none (some (((PL spot).length : Int) - second / 105 % 2)) (PL spot)
    have d2 := pyCut_le none (some (second % 4)) (PL p0)
    refine Ex.cons (Ex1.assign (d := .list (pyCut none (some (((PL spot).length : Int) - second / 105 % 2)) (PL spot) ++ pyCut none (some (second % 4)) (PL p0))) (EvF.bin (f₁ := .c) (f₂ := .c) (Ev.ofF (by walk_at "m")) (Ev.ofF (by walk_at "m")) (Bin.catL (by rw [sizeLine_is]; omega) (.inl rfl) (.inl rfl))) (by walk_at "mPut") (by walk_at "mLoc") (by walk_at "mR") (show Ex _ _ _ _ _ _ from ?_))
    refine Ex.nil ⟨rfl, pyCut none (some (((PL spot).length : Int) - second / 105 % 2)) spot ++ pyCut none (some (second % 4)) p0, some (.d (.list (PL spot)), .c), fun y hy => (List.mem_append.mp hy).elim (fun h => r1 y (cut_mem h)) (fun h => hp0 y (cut_mem h)), by rw [List.length_append]; omega, ?_⟩
    rw [show PL (pyCut none (some (((PL spot).length : Int) - second / 105 % 2)) spot ++ pyCut none (some (second % 4)) p0) = pyCut none (some (((PL spot).length : Int) - second / 105 % 2)) (PL spot) ++ pyCut none (some (second % 4)) (PL p0) by unfold PL; rw [List.map_append, cut_map, cut_map]]
  · exact Ex.nil ⟨rfl, p0, _, hp0, by omega, rfl⟩
  rintro f Γ ⟨rfl, p, sp, hp, hpl, rfl⟩
  refine (show Ex _ _ _ _ _ _ from ?_)
  clear hp0 hp0l Lp0
  have Lp : (PL p).length = p.length := by simp
  refine Ex.cons (Ex1.mono (Q := fun f Γ => f = .next ∧ ∃ p : List (List Nat), (∀ x ∈ p, Gn x) ∧ p.length ≤ 2560 ∧ Γ = ([("_law_script", some (.d (.list (ns.map .int)), .b)), ("_law_first", some (.d (.int first), .c)), ("_law_cells", some (.d (.list (cs.map .int)), .c)), ("_law_made", some (.d (.tuple [dictD (tabD tab), dictD (plD pm)]), .c)), ("_law_table", some (.d (dictD (tabD L)), .c)), ("_law_names", some (.d (.list (PL (L.map (·.1)))), .c)), ("_law_second", some (.d (.int second), .c)), ("_law_place", some (.d (.list (PL p)), .c)), ("_law_spot", sp), ("_law_shares", none), ("_law_one", none), ("_law_handed", none), ("_law_found", none)] : Gm)) (Ex1.ite (b := first / 112 % 8 == 1) (by walk_at "m") (fun hb => ?_) (fun _ => ?_)) ?_)
  · have hlen3 := faC_len (ns.getD (Int.toNat 2) 0) 13 60
    have hpb := law_place_by_spec G (cells := faC (ns.getD (Int.toNat 2) 0) 13 60) (by omega)
    have Lq : (PL ((faC (ns.getD (Int.toNat 2) 0) 13 60).map nameBy)).length = 60 := by rw [List.length_map, List.length_map, hlen3]
    refine Ex.cons (Ex1.assign (d := .list (PL p ++ PL ((faC (ns.getD (Int.toNat 2) 0) 13 60).map nameBy))) (EvF.bin (f₁ := .c) (f₂ := .c) (Ev.name (by walk_at "mMem")) (Ev.ofF (EvF.fn (xs := [(.d (.list ((faC (ns.getD (Int.toNat 2) 0) 13 60).map .int)), .c)]) (by walk_at "mKd") (by walk_at "mR") (EvA.cons (Ev.ofF (near_cells G (many := Int.toNat 60) (cs := faC (ns.getD (Int.toNat 2) 0) 13 60) (f := faF (ns.getD (Int.toNat 2) 0) 13) he (by omega) (by walk_at "mMem") rfl rfl rfl (by walk_at "mItr") (far_all ..) (fun C cl k hk => by show EvF _ _ _ _ _ (.int (ns.getD (Int.toNat 2) 0 + 13 * (k : Int) * (k : Int))); walk_at "m"))) EvA.nil (by walk_at "mR")) hpb (by omega))) (Bin.catL (by rw [sizeLine_is, Lp, Lq]; omega) (.inl rfl) (.inl rfl))) (by walk_at "mPut") (by walk_at "mLoc") (by walk_at "mR") (show Ex _ _ _ _ _ _ from ?_))
    refine Ex.nil ⟨rfl, p ++ (faC (ns.getD (Int.toNat 2) 0) 13 60).map nameBy, fun y hy => (List.mem_append.mp hy).elim (hp y) (fun h => by obtain ⟨c, _, rfl⟩ := List.mem_map.mp h; exact nameBy_gd c), by rw [List.length_append, List.length_map, hlen3]; omega, ?_⟩
    rw [show PL (p ++ (faC (ns.getD (Int.toNat 2) 0) 13 60).map nameBy) = PL p ++ PL ((faC (ns.getD (Int.toNat 2) 0) 13 60).map nameBy) from List.map_append ..]
  · exact Ex.nil ⟨rfl, p, hp, by omega, rfl⟩
  clear hp hpl Lp
  rintro f Γ ⟨rfl, p, hp, hpl, rfl⟩
  refine (show Ex _ _ _ _ _ _ from ?_)
  have Lp : (PL p).length = p.length := by simp
  refine Ex.cons (Ex1.assignV (fl := .c) (Ev.make (xs := [(.d (dictD (tabD L)), .c)]) (by walk_at "mKd") (by walk_at "mR") (by walk_at "mG") (by rw [G.k]; k_is) (by rw [G.k]; k_is) (by rw [G.k]; k_is) (by rw [G.k]; k_is) (EvA.cons (Ev.name (by walk_at "mMem")) EvA.nil (by walk_at "mR")) hin (by omega)) (by simp) (by walk_at "mPut") (by walk_at "mLoc") (by walk_at "mR") (show Ex _ _ _ _ _ _ from ?_))
  clear hin
  generalize L.map (·.1) = nms at hSh hsame hmem Ln ⊢
  generalize loopF L.length (rowsOf L) [] = pw at hSh hsame ⊢
  have htell : ∀ q : List (List Nat), tellL (PMf pw) q (bestF (PMf pw) q nms) = tellL (PMf pm) q (bestF (PMf pm) q nms) := fun q => by
    have e : bestF (PMf pw) q nms = bestF (PMf pm) q nms := best_congr nms _ hsame
    rw [e]; rfl
  have hlook : ∀ x ∈ nms, pm.lookup x = some (PMf pm x) := fun x hx => lookup_nodup hnP (PMf_mem (hkey ▸ hmem x hx))
  have hrefs : ∀ x ∈ nms, (∀ y ∈ PMf pm x, Gn y) ∧ (PMf pm x).length ≤ 61 * pm.length := fun x hx => I.ref (by simp only; omega) (hmem x hx)
  refine Ex.cons (Ex1.forI (items := [.list (PL p), .list (PL (p.take 1)), .list (PL []), .list (PL p)]) (fl := .c) (Itr.list (Ev.ofF (EvF.listL (EvL.cons (Ev.name (by walk_at "mMem")) (EvL.cons (Ev.ofF (EvF.cast (d := .list (pyCut none (some 1) (PL p))) (by walk_at "m") (by rw [show pyCut none (some 1) (PL p) = (PL p).take 1 from cut_to (PL p) 1]; exact congrArg PyData.list (List.map_take ..).symm))) (EvL.cons (Ev.ofF (EvF.listL EvL.nil (by decide))) (EvL.cons (Ev.name (by walk_at "mMem")) EvL.nil (by walk_at "mR")) (by walk_at "mR")) (by walk_at "mR")) (by walk_at "mR")) (by rw [sizeLine_is]; simp))) (by intro _; walk_at "mR")) (by simp) (by walk_at "mLoc")
    (fun i Γ => ∃ t1 t2 t3, Γ = ([("_law_script", some (.d (.list (ns.map .int)), .b)), ("_law_first", some (.d (.int first), .c)), ("_law_cells", some (.d (.list (cs.map .int)), .c)), ("_law_made", some (.d (.tuple [dictD (tabD tab), dictD (plD pm)]), .c)), ("_law_table", some (.d (dictD (tabD L)), .c)), ("_law_names", some (.d (.list (PL nms)), .c)), ("_law_second", some (.d (.int second), .c)), ("_law_place", some (.d (.list (PL p)), .c)), ("_law_spot", sp), ("_law_shares", some (.i 172 (shF nms pw), .c)), ("_law_one", t1), ("_law_handed", t2), ("_law_found", t3)] : Gm)) ⟨_, _, _, rfl⟩ (fun i d Γ hd hΓ => ?_) (fun Γ hΓ => ?_))
  · obtain ⟨t1, t2, t3, rfl⟩ := hΓ
    obtain ⟨q, rfl, hq, hql⟩ : ∃ q : List (List Nat), d = .list (PL q) ∧ (∀ x ∈ q, Gn x) ∧ q.length ≤ 2560 := by
      have := List.mem_of_getElem? hd
      simp only [List.mem_cons, List.not_mem_nil, or_false] at this
      rcases this with rfl | rfl | rfl | rfl
      · exact ⟨p, rfl, hp, hpl⟩
      · exact ⟨p.take 1, rfl, fun x hx => hp x (List.mem_of_mem_take hx), by rw [List.length_take]; omega⟩
      · exact ⟨[], rfl, by simp, by simp⟩
      · exact ⟨p, rfl, hp, hpl⟩
    clear hd
    refine ⟨.c, _, .inl rfl, by walk_at "mPut", ?_⟩
    have Lq : (PL q).length = q.length := by simp
    have hqasc : ∀ x ∈ q, Asc x := fun x hx => (hq x hx).asc
    have hcp : CallB T 6 (.type "list") [(.d (.list (PL q)), .c)] (.list (PL q)) := CallB.listL (by rw [sizeLine_is, Lq]; omega) (.inl rfl)
    have hbs := by_share_spec G (p := q) hSh.ok hq (by omega) hSh.gn hSh.len hSh.look hSh.pgn
    have htl := law_told_by_spec G (nms := nms) (pm := pm) (p := q) hnP hlook hSh.gn hq (by omega) (fun x hx => (hrefs x hx).1) (fun x hx => by have := (hrefs x hx).2; omega)
    rw [htell] at hbs
    generalize tellL (PMf pm) q (bestF (PMf pm) q nms) = text at hbs htl
    refine Ex.cons (Ex1.assign (d := .list (PL q)) (EvF.callB (xs := [(_, .c)]) (by walk_at "mKd") (by walk_at "mR") (by walk_at "mG") (by walk_at "mB") (.inr ⟨_, rfl⟩) (EvA.cons (Ev.name (by walk_at "mMem")) EvA.nil (by walk_at "mR")) hcp) (by walk_at "mPut") (by walk_at "mLoc") (by walk_at "mR") (show Ex _ _ _ _ _ _ from ?_))
    refine Ex.cons (Ex1.assign (d := .str (mkS text)) (EvF.fn (xs := [(.d (.list (PL q)), .c), (.i 172 (shF nms pw), .c)]) (by walk_at "mKd") (by walk_at "mR") (EvA.cons (Ev.name (by walk_at "mMem")) (EvA.cons (Ev.name (by walk_at "mMem")) EvA.nil (by walk_at "mR")) (by walk_at "mR")) hbs (by omega)) (by walk_at "mPut") (by walk_at "mLoc") (by walk_at "mR") (show Ex _ _ _ _ _ _ from ?_))
    refine Ex.cons (Ex1.ite (b := false) ?_ (fun h => nomatch h) (fun _ => ?_))
    · have e : false = ((!true) || ((!decide (text = text)) || ((!decide (q = q)) || false))) := by simp
      rw [e]
      refine IsT.or (by walk_at "m") (fun _ => IsT.or (IsT.cmp (f₁ := .c) (f₂ := .c) (v₁ := .d (.str (mkS text))) (v₂ := .d (.str (mkS text))) (Ev.name (by walk_at "mMem")) (Ev.ofF (EvF.fn (xs := [(.d (.list (PL nms)), .c), (.d (dictD (plD pm)), .c), (.d (.list (PL q)), .c)]) (by walk_at "mKd") (by walk_at "mR") (EvA.cons (Ev.name (by walk_at "mMem")) (EvA.cons (Ev.sub (Ev.name (by walk_at "mMem")) (Ev.ofF EvF.kInt) (Sub.tuple (by omega) (by omega) m1) (by intro _ _; walk_at "mR")) (EvA.cons (Ev.name (by walk_at "mMem")) EvA.nil (by walk_at "mR")) (by walk_at "mR")) (by walk_at "mR")) htl (by omega))) Cmp.neL (by walk_at "mR")) (fun _ => IsT.or ?_ fun _ => IsT.orNil))
      exact IsT.cmp (f₁ := .c) (f₂ := .c) (v₁ := .d (.list (PL q))) (v₂ := .d (.list (PL q))) (Ev.name (by walk_at "mMem")) (Ev.name (by walk_at "mMem")) (Cmp.nePL hqasc hqasc) (by walk_at "mR")
    exact Ex.nil (show Ex _ _ _ _ _ _ from Ex.nil ⟨_, _, _, rfl⟩)
  obtain ⟨t1, t2, t3, rfl⟩ := hΓ
  refine (show Ex _ _ _ _ _ _ from ?_)
  exact Ex.cons (Ex1.ret (d := .bool true) EvF.kBool rfl)
end
theorem final_of (LS : ∀ (T : St) (ns : List Int), GdK T (hd.heap_1 T.w.params) → ns.length ≤ 63 → FunT T 7 "law" [.d (.list (ns.map .int))] (.bool true)) : PySem.Challenge.rw_uf060013_10.Holds := hd (by
  k_fill
  intro w s₀ s₁ mg mb G Y fa o pm cd doc dV kV ho hd hcd hD hmg hg args vals as hpre hlay hrd hwl hlo
  have KX := kIn_of Y
  refine Ground.open G ?_
  intro T B D TE TW
  wrow_args hpre hlay hrd hwl hlo
  x_fa T KX hmg
  clear hD hcd hd ho
  rename_i ns hs hlay hL2 hr hl2 as1 as2 a vs as3 hlist hall hwell hreads hints hraw hcond htrue
  have hmg' : mg "law" = some (.ref _) := hmg
  clear hmg
  have GG : GdK ⟨PySem.Challenge.rw_uf060013_10.row.prog, w, mg, mb, hd.heap_1 w.params, s₁.heap.objs.size⟩ (hd.heap_1 w.params) := ⟨rfl, fun x r e => by
    cases r with
    | none => exact mg_none_of (mg := mg) KX T.g e
    | some v => exact mg_of (mg := mg) KX T.g e, fun x hn => T.builtins x hn, ⟨_, _, T.free⟩⟩
  obtain ⟨a', fd, e1, e2, e3⟩ := LS ⟨PySem.Challenge.rw_uf060013_10.row.prog, w, mg, mb, hd.heap_1 w.params, s₁.heap.objs.size⟩ ns GG (by omega)
  have ea : mg "law" = some (.ref a') := e1
  rw [hmg'] at ea
  injection ea with ea
  injection ea with ea
  subst ea
  have hdok : Dok w s₁.heap as1 := by
    intro b hb
    cases hreads with
    | list ho hc hdat hrest =>
      have hnil : ∀ (vs : List Value) (xs : List Int) (bs : List Addr), ReadsAll s₁.heap vs (xs.map PyData.int) bs → bs = [] := by
        intro vs xs
        induction xs generalizing vs with
        | nil => intro bs h; cases h; rfl
        | cons x xs ih => intro bs h; cases h with | cons h1 h2 => cases h1; exact ih _ _ h2
      have := hnil _ _ _ hrest
      subst this
      rcases List.mem_cons.mp hb with rfl | hb
      · exact ⟨_, ho, fun es n q => by rw [hdat] at q; cases q⟩
      · cases hb
  refine e3.run ⟨rfl, by decide, by decide⟩ rfl (Nat.le_refl _) ⟨T.g, T.b, T.nolimit, fun b o e => KX b o e, fun b o e => Heap.lt_size (KX b o e)⟩ (.cons ⟨as1, hreads, fun _ _ => trivial, hdok⟩ .nil) (fun val s' k r => ?_)
  obtain rfl : val = .bool true := Rep.bool_inv r.rep
  obtain ⟨h', tk, rfl, hk⟩ := k
  refine GoodW.toG ⟨.inl ⟨_, .bool true, [], rfl, fun _ => rfl, .bool true, ?_, fun _ => ⟨.nil, fun _ h => nomatch h⟩⟩, fun b o e => ?_, rfl, hg⟩
  · refine postW_of (X := true) ?_ ?_ rfl
    · show WShape.has [] (.bool true) .bool = true
      first | rfl | simp [WShape.has]
    · show (WTm.eq .res (.lit (.bool true))).value [] _ = some (.bool true)
      simp [WTm.value, PySem.W.same]
  obtain ⟨sl, e1, e2⟩ := hk b o e
  have := e2 (.inr (.inl (Heap.lt_size e)))
  subst this
  exact e1)
end Mine

theorem PySem.Challenge.cw_uf060013_10_holds : PySem.Challenge.rw_uf060013_10.Holds :=
  Mine.final_of fun _ _ G h => Mine.law_spec G h
