import PyProof.Rows.All
import Wide.All
import OpenK.AllK
import Wide.FinOn
import PyProof.ReprRoads
import HandS.ForMost
import HandS.ForExc
import HandS.Evl
import HandS.NestedK
import HandS.Wide
import HandS.Property
import HandS.TryMany
import HandS.WideBits
import HandS.Deep
import PyProof.CallFns
import HandS.ExcInit
import HandS.ExcIs
import HandS.ExcField
import HandS.IsInst
import HandS.HeadEnd
import HandS.HeadHook1
import HandS.HeadHook2
import HandS.HeadHook4
import HandS.Head0
import HandS.Head1
import HandS.Head2
import HandS.Ends
import HandS.Text
import HandS.StrMore
import HandS.More
import HandS.List
import HandS.Defaults
import PyProof.StrBlock2
import HandS.SetTxt0
import HandS.SetFor
import HandS.Strs
import PyProof.Rows.SortShellAny
import HandS.Star
import HandS.Style
import HandS.Codes
import HandS.Flow
import HandS.Dict
import HandS.Conv
import HandS.Small
import HandS.TupLen
import KE.KEqDict
import KE.KDictOf
import KE.KDictCopyH
import HandS.DictComp
import HandS.SortInts
import PyProof.Rows.StrRev
import HandS.TryOnly
import KE.KTryMore
import HandS.WordsDict
import HandS.SetKeys
import PyProof.DictMoreH
import KE.SortData
import HandS.RevRange
import PyProof.StrWalks
import HandS.Replace
import HandS.Remove
import KE.KDictDisplayH
import PySem.Challenge.RW_splicedfilms_k18_the_first_text_apart
import PyProof.Rows.StrCut
set_option Elab.async false
set_option linter.all false
set_option maxRecDepth 100000
set_option maxHeartbeats 4000000
/-! DL: a data layer over the hand layer. Values are data (trees) or places in a small store of live objects. -/
namespace DL
open PySem PySem.Spec L2
/-! ### data under a growing heap: tuples that stand as they were laid -/
mutual
inductive Dp (K : PySem.W.Frag) (G : Hp) : V → PyData → Prop
  | non : Dp K G .non .none
  | bl (b : Bool) : Dp K G (.bl b) (.bool b)
  | int (i : Int) : Dp K G (.int i) (.int i)
  | str (x : Str) : Dp K G (.str x) (.str x)
  | lst {a : Addr} {xs : List V} {ds : List PyData} : SqL K G a xs → DpAll K G xs ds → Dp K G (.ref a) (.list ds)
  | tup {a : Addr} {xs : List V} {ds : List PyData} : G a = some (.tup xs) → DpAll K G xs ds → Dp K G (.ref a) (.tuple ds)
inductive DpAll (K : PySem.W.Frag) (G : Hp) : List V → List PyData → Prop
  | nil : DpAll K G [] []
  | cons {v : V} {vs : List V} {d : PyData} {ds : List PyData} : Dp K G v d → DpAll K G vs ds → DpAll K G (v :: vs) (d :: ds)
end
mutual
theorem dp_up {K : PySem.W.Frag} {G G' : Hp} (e : Same G G') : ∀ {v : V} {d : PyData}, Dp K G v d → Dp K G' v d
  | _, _, .non => .non
  | _, _, .bl b => .bl b
  | _, _, .int i => .int i
  | _, _, .str x => .str x
  | _, _, .lst h a => .lst (e.seq h) (dpAll_up e a)
  | _, _, .tup h a => .tup (e _ _ h) (dpAll_up e a)
theorem dpAll_up {K : PySem.W.Frag} {G G' : Hp} (e : Same G G') : ∀ {vs : List V} {ds : List PyData}, DpAll K G vs ds → DpAll K G' vs ds
  | _, _, .nil => .nil
  | _, _, .cons h t => .cons (dp_up e h) (dpAll_up e t)
end
mutual
/-- as the hand layer says it -/
theorem dp_old {K : PySem.W.Frag} {G : Hp} : ∀ {v : V} {d : PyData}, Dp K G v d → L2.Dp K G v d
  | _, _, .non => .non
  | _, _, .bl b => .bl b
  | _, _, .int i => .int i
  | _, _, .str x => .str x
  | _, _, .lst h a => .lst h (dpAll_old a)
  | _, _, .tup h a => .tup (SqT.of h) (dpAll_old a)
theorem dpAll_old {K : PySem.W.Frag} {G : Hp} : ∀ {vs : List V} {ds : List PyData}, DpAll K G vs ds → L2.DpAll K G vs ds
  | _, _, .nil => .nil
  | _, _, .cons h t => .cons (dp_old h) (dpAll_old t)
end
/-- no tuple of keys, no table of code objects, nothing that only its own object tells -/
structure Nk (o : HO) : Prop where
  ks : ∀ ks : List Key, o ≠ .tup (ks.map kV)
  tb : ∀ ps, o ≠ .tbl ps
  ex : ∀ φ, o ≠ .ext φ
theorem nk_lst {xs : List V} : Nk (.lst xs) := ⟨fun _ h => (by cases h), fun _ h => (by cases h), fun _ h => (by cases h)⟩
theorem nk_dK {kvs : List (Key × V)} : Nk (.dK kvs) := ⟨fun _ h => (by cases h), fun _ h => (by cases h), fun _ h => (by cases h)⟩
theorem nk_dT {kvs : List (List Key × V)} : Nk (.dT kvs) := ⟨fun _ h => (by cases h), fun _ h => (by cases h), fun _ h => (by cases h)⟩
theorem nk_xd {fs : List (Str × V)} : Nk (.xd fs) := ⟨fun _ h => (by cases h), fun _ h => (by cases h), fun _ h => (by cases h)⟩
theorem nk_tup {xs : List V} {a : Addr} (h : V.ref a ∈ xs) : Nk (.tup xs) := ⟨fun ks e => (by
  have e : xs = ks.map kV := by cases e; rfl
  rw [e] at h
  obtain ⟨k, _, hk⟩ := List.mem_map.mp h
  cases k <;> cases hk), fun _ h => (by cases h), fun _ h => (by cases h)⟩
/-! ### tables of code objects: they alone change though no place holds them -/
def nmOf (q : Str) (body : List Stmt) (l c : Nat) : Str := match body.findSome? fun st => match st with
    | .FunctionDef name _ _ _ _ _ _ _ _ p => if p.line = l ∧ p.col = c then some name else none
    | _ => none with
  | some n => q ++ ".<locals>." ++ n
  | none => q ++ ".<locals>.<lambda>"
/-- the table of the def's code object: where, and the names that its code objects bear -/
def fldOf (K : PySem.W.Frag) (c : Addr) : Option Addr := match K.lookup c with
  | some (⟨_, _, Data.fields vs, _⟩ : Obj) => (match (vs[11]? : Option Value) with
    | some (Value.ref P) => some P
    | _ => none)
  | _ => none
def tabOf (K : PySem.W.Frag) (o : Obj) : Option NdefX.NTab := match o.data with
  | Data.func fd => (match fd.code with
    | Value.ref c => (match fldOf K c with
      | some P => if ((K.lookup P).isNone && PySem.W.codeHdIn K c P) = true then (match fd.body with
        | FuncBody.stmts body => some (P, nmOf fd.qualname body)
        | _ => none) else none
      | none => none)
    | _ => none)
  | _ => none
/-- of each address the first alone -/
def ddT : List NdefX.NTab → List NdefX.NTab
  | [] => []
  | p :: r => p :: (ddT r).filter fun q => q.1 != p.1
theorem ddT_sub : ∀ {l : List NdefX.NTab} {p : NdefX.NTab}, p ∈ ddT l → p ∈ l
  | q :: r, p, h => by
    rcases List.mem_cons.mp h with e | e
    · rw [e]; exact List.mem_cons_self
    · exact List.mem_cons_of_mem _ (ddT_sub (List.mem_filter.mp e).1)
theorem ddT_uniq : ∀ {l : List NdefX.NTab} {p q : NdefX.NTab}, p ∈ ddT l → q ∈ ddT l → p.1 = q.1 → p = q
  | x :: r, p, q, h1, h2, e => by
    rcases List.mem_cons.mp h1 with e1 | e1 <;> rcases List.mem_cons.mp h2 with e2 | e2
    · rw [e1, e2]
    · have := (List.mem_filter.mp e2).2
      rw [e1] at e
      rw [← e] at this
      simp at this
    · have := (List.mem_filter.mp e1).2
      rw [e2] at e
      rw [e] at this
      simp at this
    · exact ddT_uniq (List.mem_filter.mp e1).1 (List.mem_filter.mp e2).1 e
theorem ddT_some : ∀ {l : List NdefX.NTab} {p : NdefX.NTab}, p ∈ l → ∃ q ∈ ddT l, q.1 = p.1
  | x :: r, p, h => by
    by_cases c : p.1 = x.1
    · exact ⟨x, List.mem_cons_self, c.symm⟩
    · rcases List.mem_cons.mp h with e | e
      · exact absurd (by rw [e]) c
      · obtain ⟨q, hq, e2⟩ := ddT_some e
        exact ⟨q, List.mem_cons_of_mem _ (List.mem_filter.mpr ⟨hq, by rw [e2]; simpa using c⟩), e2⟩
def rawA (K : PySem.W.Frag) : List (Addr × NdefX.NTab) := (K.map (·.1)).filterMap fun a => ((K.lookup a).bind (tabOf K)).map fun t => (a, t)
theorem rawA_mem {K : PySem.W.Frag} {a : Addr} {t : NdefX.NTab} : (a, t) ∈ rawA K ↔ ∃ o, K.lookup a = some o ∧ tabOf K o = some t ∧ a ∈ K.map (·.1) := by
  unfold rawA
  rw [List.mem_filterMap]
  constructor
  · rintro ⟨b, hb, e⟩
    obtain ⟨t', e1, e2⟩ := Option.map_eq_some_iff.mp e
    cases e2
    obtain ⟨o, e3, e4⟩ := Option.bind_eq_some_iff.mp e1
    exact ⟨o, e3, e4, hb⟩
  · rintro ⟨o, e1, e2, hb⟩
    exact ⟨a, hb, by rw [e1]; show (tabOf K o).map _ = _; rw [e2]; rfl⟩
def tabs (K : PySem.W.Frag) : List NdefX.NTab := ddT ((rawA K).map (·.2))
theorem tabs_mem {K : PySem.W.Frag} {p : NdefX.NTab} (h : p ∈ tabs K) : K.lookup p.1 = none ∧ ∃ c, PySem.W.codeHdIn K c p.1 = true := by
  obtain ⟨⟨a, t⟩, h1, rfl⟩ := List.mem_map.mp (ddT_sub h)
  obtain ⟨o, _, e, _⟩ := rawA_mem.mp h1
  have e : tabOf K o = some t := e
  unfold tabOf at e
  split at e
  · split at e
    · rename_i c _
      split at e
      · rename_i P _
        split at e
        · rename_i k
          rw [Bool.and_eq_true] at k
          split at e
          · cases e
            exact ⟨Option.isNone_iff_eq_none.mp k.1, c, k.2⟩
          · cases e
        · cases e
      · cases e
    · cases e
  · cases e
theorem tabs_uniq {K : PySem.W.Frag} {p q : NdefX.NTab} (h1 : p ∈ tabs K) (h2 : q ∈ tabs K) (e : p.1 = q.1) : p = q := ddT_uniq h1 h2 e
theorem look_mem {a : Addr} {o : Obj} : ∀ {K : List (Addr × Obj)}, K.lookup a = some o → a ∈ K.map (·.1)
  | (b, u) :: r, h => by
    by_cases c : a = b
    · rw [c]; exact List.mem_cons_self
    · have h' : r.lookup a = some o := by
        rw [List.lookup_cons] at h
        rw [show (a == b) = false from by simpa using c] at h
        exact h
      exact List.mem_cons_of_mem _ (look_mem h')
/-- the def at f alone has the table P -/
def onlyB (K : PySem.W.Frag) (f P : Addr) : Bool := (rawA K).all fun q => q.2.1 != P || q.1 == f
theorem tabs_at {K : PySem.W.Frag} {f : Addr} {o : Obj} {t : NdefX.NTab} (h : K.lookup f = some o) (e : tabOf K o = some t) (u : onlyB K f t.1 = true) : t ∈ tabs K := by
  have m : (f, t) ∈ rawA K := rawA_mem.mpr ⟨o, h, e, look_mem h⟩
  obtain ⟨q, hq, e1⟩ := ddT_some (l := (rawA K).map (·.2)) (p := t) (List.mem_map.mpr ⟨(f, t), m, rfl⟩)
  obtain ⟨⟨a, t'⟩, m2, e2⟩ := List.mem_map.mp (show q ∈ (rawA K).map (·.2) from ddT_sub hq)
  have e2 : t' = q := e2
  subst e2
  have c := List.all_eq_true.mp u _ m2
  rw [Bool.or_eq_true] at c
  rcases c with c | c
  · rw [show ((a, t') : Addr × NdefX.NTab).2.1 = t.1 from e1] at c
    simp at c
  · have ea : a = f := eq_of_beq c
    subst ea
    obtain ⟨o', h', e', _⟩ := rawA_mem.mp m2
    rw [h] at h'
    cases h'
    rw [e] at e'
    cases e'
    exact hq
structure TbOk (K : PySem.W.Frag) (G H : Hp) : Prop where
  g : ∀ a ps, G a ≠ some (.tbl ps)
  h : NdefX.TabsN (tabs K) H
theorem TbOk.upd {K : PySem.W.Frag} {G H : Hp} (t : TbOk K G H) {a : Addr} {ho : HO} (h : ∀ o, H a = some o → Nk o) : TbOk K G (L2.upd H a ho) := by
  refine ⟨t.g, fun p hp => ?_⟩
  obtain ⟨ps, e, tr, cs⟩ := t.h p hp
  refine ⟨ps, by rw [upd_ne (fun z => by subst z; exact (h _ e).tb _ rfl)]; exact e, tr, fun pos cv hc => ?_⟩
  obtain ⟨c, ec, hcd⟩ := cs pos cv hc
  exact ⟨c, ec, by rw [upd_ne (fun z => by subst z; exact (h _ hcd).ex _ rfl)]; exact hcd⟩
theorem TbOk.new {K : PySem.W.Frag} {G H : Hp} (t : TbOk K G H) {a : Addr} {ho : HO} (h : H a = none) : TbOk K G (L2.upd H a ho) := t.upd fun o e => by rw [h] at e; cases e
theorem TbOk.gup {K : PySem.W.Frag} {G H : Hp} (t : TbOk K G H) {a : Addr} {ho : HO} (h : ∀ ps, ho ≠ .tbl ps) : TbOk K (L2.upd G a ho) H := ⟨fun b ps e => by
  by_cases z : b = a
  · subst z; rw [upd_same] at e; exact h ps (Option.some.inj e)
  · rw [upd_ne z] at e; exact t.g b ps e, t.h⟩
/-! ### the symbolic store -/
/-- a value: a datum, or the n-th live object -/
inductive T where
  | dat (d : PyData)
  | loc (n : Nat)
  /-- a caught error: its object, its own dict, the place of that dict -/
  | exc (a d : Addr) (n : Nat)
  /-- a function made here: where it stands, what is true of it -/
  | fn (f : Addr) (p : Hp → Prop)
/-- what stands at a place of the store -/
inductive O where
  | lst (ts : List T)
  | tup (ts : List T)
  | ins (C : Addr) (fs : List (Str × T))
  | dk (kvs : List (Key × T))
  | dt (kvs : List (List Key × T))
  /-- a dict that is walked -/
  | lk (kvs : List (Key × T)) (od : Obj) (ws : List (Key × V))
  | xd (t : T)
  | frz (d : PyData)
  | gone
abbrev Mu := List O
abbrev En := List (Option T)
/-- a state: the places' addresses, the heap of what never changes any more, the heap -/
structure S where
  ι : List Addr
  G : Hp
  H : Hp
def TR (K : PySem.W.Frag) (s : S) : T → V → Prop
  | .dat d, v => Dp K s.G v d
  | .loc n, v => ∃ a, s.ι[n]? = some a ∧ v = .ref a
  | .exc a d n, v => v = .ref a ∧ s.ι[n]? = some d
  | .fn f p, v => v = .ref f ∧ ∀ G : Hp, Same s.G G → p G
abbrev TRs (K : PySem.W.Frag) (s : S) : List T → List V → Prop := Paired (TR K s)
def FR (K : PySem.W.Frag) (s : S) (p : Str × T) (q : Str × V) : Prop := p.1 = q.1 ∧ TR K s p.2 q.2
def KR {κ : Type} (K : PySem.W.Frag) (s : S) (p : κ × T) (q : κ × V) : Prop := p.1 = q.1 ∧ TR K s p.2 q.2
def OR (K : PySem.W.Frag) (s : S) (a : Addr) : O → Prop
  | .lst ts => s.G a = none ∧ ∃ xs, s.H a = some (.lst xs) ∧ TRs K s ts xs
  | .tup ts => s.G a = none ∧ ∃ xs, s.H a = some (.tup xs) ∧ TRs K s ts xs
  | .ins C fs => s.G a = none ∧ ∃ dx vs, s.H a = some (.ins C dx vs) ∧ Paired (FR K s) fs vs
  | .dk kvs => s.G a = none ∧ ∃ ws, s.H a = some (.dK ws) ∧ Paired (KR K s) kvs ws
  | .dt kvs => s.G a = none ∧ ∃ ws, s.H a = some (.dT ws) ∧ Paired (KR K s) kvs ws
  | .lk kvs od ws => s.G a = none ∧ s.H a = some (.frz od (.dK ws)) ∧ Paired (KR K s) kvs ws
  | .xd t => s.G a = none ∧ ∃ v, s.H a = some (.xd [(("value" : Str), v)]) ∧ TR K s t v
  | .frz d => Dp K s.G (.ref a) d
  | .gone => True
structure Rel (K : PySem.W.Frag) (s : S) (μ : Mu) : Prop where
  sub : Same s.G s.H
  nd : s.ι.Nodup
  len : s.ι.length = μ.length
  ob : ∀ (n : Nat) (a : Addr) (o : O), s.ι[n]? = some a → μ[n]? = some o → OR K s a o
  thr : ∀ a, a ∈ s.ι → s.H a ≠ none
  nk : ∀ a o, a ∈ s.ι → s.H a = some o → Nk o
  tb : TbOk K s.G s.H
/-- later states -/
structure Ext (s s' : S) : Prop where
  io : ∃ l, s'.ι = s.ι ++ l
  g : Same s.G s'.G
  fr : ∀ a o, s.H a = some o → a ∉ s.ι → (∀ ps, o ≠ .tbl ps) → s'.H a = some o
  nw : ∀ a, s'.G a ≠ none → s.G a = none → s.H a = none ∨ a ∈ s.ι ∨ ∃ o, s.H a = some o ∧ ¬ Nk o
  nl : ∀ a, a ∈ s'.ι → a ∉ s.ι → s.H a = none
  nb : ∀ a, s'.H a = none → s.H a = none ∨ a ∈ s.ι
def ER (K : PySem.W.Frag) (s : S) (t : Option T) (v : Option V) : Prop := ∀ x, t = some x → ∃ y, v = some y ∧ TR K s x y
abbrev EnR (K : PySem.W.Frag) (s : S) : En → St → Prop := Paired (ER K s)
theorem not_none {α : Type} {x : Option α} (h : x ≠ none) : ∃ y, x = some y := by
  cases x with
  | none => exact absurd rfl h
  | some y => exact ⟨y, rfl⟩
theorem Ext.refl (s : S) : Ext s s := ⟨⟨[], by simp⟩, Same.refl _, fun _ _ h _ _ => h, fun _ h h' => absurd h' h, fun _ h h' => absurd h h', fun _ h => .inl h⟩
theorem Ext.none_back {s s' : S} (e : Ext s s') {a : Addr} (h : s'.H a = none) : s.H a = none ∨ a ∈ s.ι := e.nb a h
theorem Ext.trans {s s1 s2 : S} (a : Ext s s1) (b : Ext s1 s2) : Ext s s2 := by
  obtain ⟨l, e⟩ := a.io
  obtain ⟨l', e'⟩ := b.io
  refine ⟨⟨l ++ l', by rw [e', e, List.append_assoc]⟩, a.g.trans b.g, fun x o h m nt => ?_, fun x h h' => ?_, fun x h m => ?_, fun x h => ?_⟩
  · refine b.fr x o (a.fr x o h m nt) (fun m' => ?_) nt
    have := a.nl x m' m
    rw [h] at this; cases this
  · by_cases q : s1.G x = none
    · rcases b.nw x h q with z | z | ⟨o1, z, k⟩
      · exact (a.none_back z).imp id .inl
      · by_cases m : x ∈ s.ι
        · exact .inr (.inl m)
        · exact .inl (a.nl x z m)
      · cases w : s.H x with
        | none => exact .inl rfl
        | some o =>
          by_cases m : x ∈ s.ι
          · exact .inr (.inl m)
          · by_cases nt : ∀ ps, o ≠ .tbl ps
            · have w2 := a.fr x o w m nt
              rw [z] at w2
              cases w2
              exact .inr (.inr ⟨_, rfl, k⟩)
            · exact .inr (.inr ⟨_, rfl, fun n => nt n.tb⟩)
    · exact a.nw x q h'
  · by_cases m' : x ∈ s1.ι
    · exact a.nl x m' m
    · rcases a.none_back (b.nl x h m') with z | z
      · exact z
      · exact absurd z m
  · rcases b.nb x h with z | z
    · exact a.nb x z
    · by_cases m : x ∈ s.ι
      · exact .inr m
      · exact .inl (a.nl x z m)
theorem Ext.ix {s s' : S} (e : Ext s s') {n : Nat} {a : Addr} (h : s.ι[n]? = some a) : s'.ι[n]? = some a := by
  obtain ⟨l, q⟩ := e.io
  rw [q, List.getElem?_append_left (List.getElem?_eq_some_iff.mp h).1]
  exact h
section
variable {K : PySem.W.Frag} {s s' : S} {μ μ' : Mu} {t : T} {v : V}
theorem TR.up (e : Ext s s') (h : TR K s t v) : TR K s' t v := by
  cases t with
  | dat d => exact dp_up e.g h
  | loc n =>
    obtain ⟨a, h1, h2⟩ := h
    exact ⟨a, e.ix h1, h2⟩
  | exc a d n => exact ⟨h.1, e.ix h.2⟩
  | fn f p => exact ⟨h.1, fun G g => h.2 G (e.g.trans g)⟩
theorem TRs.up (e : Ext s s') {ts : List T} {vs : List V} (h : TRs K s ts vs) : TRs K s' ts vs := Paired.mapP h fun _ _ z => TR.up e z
theorem EnR.up (e : Ext s s') {env : En} {σ : St} (h : EnR K s env σ) : EnR K s' env σ := Paired.mapP h fun _ _ z x hx => by
  obtain ⟨y, h1, h2⟩ := z x hx
  exact ⟨y, h1, TR.up e h2⟩
theorem EnR.get : ∀ {env : En} {σ : St} {i : Nat} {t : T}, EnR K s env σ → env[i]? = some (some t) → ∃ v, σ[i]? = some (some v) ∧ TR K s t v
  | _, _, _, _, .nil, h => by simp at h
  | _, _, 0, t, .cons r _, h => by
    simp at h
    obtain ⟨v, h1, h2⟩ := r t h
    exact ⟨v, by simp [h1], h2⟩
  | _, _, i + 1, t, .cons _ r, h => by
    obtain ⟨v, h1, h2⟩ := EnR.get (i := i) r (by simpa using h)
    exact ⟨v, by simpa using h1, h2⟩
theorem EnR.set (h : TR K s t v) : ∀ {env : En} {σ : St} (i : Nat), EnR K s env σ → EnR K s (env.set i (some t)) (σ.set i (some v))
  | _, _, _, .nil => .nil
  | _, _, 0, .cons _ r => .cons (fun x hx => by cases hx; exact ⟨v, rfl, h⟩) r
  | _, _, i + 1, .cons a r => .cons a (EnR.set h i r)
theorem EnR.del : ∀ {env : En} {σ : St} (i : Nat), EnR K s env σ → EnR K s (env.set i none) (σ.set i none)
  | _, _, _, .nil => .nil
  | _, _, 0, .cons _ r => .cons (fun x hx => by cases hx) r
  | _, _, i + 1, .cons a r => .cons a (EnR.del i r)
theorem EnR.length {env : En} {σ : St} (h : EnR K s env σ) : env.length = σ.length := Paired.length h
/-- forgetting a variable -/
theorem EnR.drop : ∀ {env : En} {σ : St} (i : Nat), EnR K s env σ → EnR K s (env.set i none) σ
  | _, _, _, .nil => .nil
  | _, _, 0, .cons _ r => .cons (fun x hx => by cases hx) r
  | _, _, i + 1, .cons a r => .cons a (EnR.drop i r)
theorem TRs.get : ∀ {ts : List T} {vs : List V} {i : Nat} {t : T}, TRs K s ts vs → ts[i]? = some t → ∃ v, vs[i]? = some v ∧ TR K s t v
  | _, _, _, _, .nil, h => by simp at h
  | _, _, 0, t, .cons r _, h => by simp at h; subst h; exact ⟨_, rfl, r⟩
  | _, _, i + 1, t, .cons _ r, h => by
    obtain ⟨v, h1, h2⟩ := TRs.get (i := i) r (by simpa using h)
    exact ⟨v, by simpa using h1, h2⟩
theorem TRs.back : ∀ {ts : List T} {vs : List V} {i : Nat} {v : V}, TRs K s ts vs → vs[i]? = some v → ∃ t, ts[i]? = some t ∧ TR K s t v
  | _, _, _, _, .nil, h => by simp at h
  | _, _, 0, t, .cons r _, h => by simp at h; subst h; exact ⟨_, rfl, r⟩
  | _, _, i + 1, t, .cons _ r, h => by
    obtain ⟨v, h1, h2⟩ := TRs.back (i := i) r (by simpa using h)
    exact ⟨v, by simpa using h1, h2⟩
theorem TRs.append : ∀ {xs ys : List T} {us ws : List V}, TRs K s xs us → TRs K s ys ws → TRs K s (xs ++ ys) (us ++ ws)
  | _, _, _, _, .nil, h => h
  | _, _, _, _, .cons r t, h => .cons r (TRs.append t h)
theorem TRs.take : ∀ {xs : List T} {us : List V} (n : Nat), TRs K s xs us → TRs K s (xs.take n) (us.take n)
  | _, _, 0, _ => .nil
  | _, _, _ + 1, .nil => .nil
  | _, _, n + 1, .cons r t => .cons r (TRs.take n t)
theorem TRs.drop : ∀ {xs : List T} {us : List V} (n : Nat), TRs K s xs us → TRs K s (xs.drop n) (us.drop n)
  | _, _, 0, h => h
  | _, _, _ + 1, .nil => .nil
  | _, _, n + 1, .cons _ t => TRs.drop n t
theorem TRs.set (r : TR K s t v) : ∀ {xs : List T} {us : List V} (i : Nat), TRs K s xs us → TRs K s (xs.set i t) (us.set i v)
  | _, _, _, .nil => .nil
  | _, _, 0, .cons _ t => .cons r t
  | _, _, i + 1, .cons q t => .cons q (TRs.set r i t)
theorem TRs.reverse {xs : List T} {us : List V} (h : TRs K s xs us) : TRs K s xs.reverse us.reverse := by
  induction h with
  | nil => exact .nil
  | cons r t ih => rw [List.reverse_cons, List.reverse_cons]; exact TRs.append ih (.cons r .nil)
theorem TRs.len {ts : List T} {vs : List V} (h : TRs K s ts vs) : ts.length = vs.length := Paired.length h
theorem TRs.of_dats : ∀ {ds : List PyData} {vs : List V}, DpAll K s.G vs ds → TRs K s (ds.map T.dat) vs
  | _, _, .nil => .nil
  | _, _, .cons r t => .cons r (TRs.of_dats t)
theorem FRs.up (e : Ext s s') {fs : List (Str × T)} {vs : List (Str × V)} (h : Paired (FR K s) fs vs) : Paired (FR K s') fs vs := Paired.mapP h fun _ _ z => ⟨z.1, TR.up e z.2⟩
theorem KRs.up {κ : Type} (e : Ext s s') {fs : List (κ × T)} {vs : List (κ × V)} (h : Paired (KR K s) fs vs) : Paired (KR K s') fs vs := Paired.mapP h fun _ _ z => ⟨z.1, TR.up e z.2⟩
/-- an attribute stored -/
def putT (f : Str) (t : T) : List (Str × T) → List (Str × T)
  | [] => [(f, t)]
  | (g, x) :: r => if g = f then (g, t) :: r else (g, x) :: putT f t r
theorem putF_nil (f : Str) (v : V) : putF f v [] = [(f, v)] := rfl
theorem putF_cons (f g : Str) (v x : V) (r : List (Str × V)) : putF f v ((g, x) :: r) = if g = f then (g, v) :: r else (g, x) :: putF f v r := rfl
theorem FRs.put {f : Str} (r : TR K s t v) : ∀ {fs : List (Str × T)} {vs : List (Str × V)}, Paired (FR K s) fs vs → Paired (FR K s) (putT f t fs) (putF f v vs)
  | _, _, .nil => by rw [putF_nil]; exact .cons ⟨rfl, r⟩ .nil
  | (g, x) :: fs, (g', y) :: vs, .cons q rs => by
    obtain ⟨e, q⟩ := q
    have e' : g = g' := e
    subst e'
    rw [putF_cons]
    unfold putT
    by_cases z : g = f
    · subst z
      rw [if_pos rfl, if_pos rfl]
      exact .cons ⟨rfl, r⟩ rs
    · rw [if_neg z, if_neg z]
      exact .cons ⟨rfl, q⟩ (FRs.put r rs)
/-- the same places: objects under a later state -/
theorem OR.same {a : Addr} {o : O} (hg : Same s.G s'.G) (hi : ∀ (n : Nat) (b : Addr), s.ι[n]? = some b → s'.ι[n]? = some b) (h1 : s.G a = none → s'.G a = none) (h2 : ∀ ho, s.H a = some ho → s'.H a = some ho) (h : OR K s a o) : OR K s' a o := by
  have tr : ∀ {t v}, TR K s t v → TR K s' t v := fun {t v} q => by
    cases t with
    | dat d => exact dp_up hg q
    | loc n => obtain ⟨b, q1, q2⟩ := q; exact ⟨b, hi n b q1, q2⟩
    | exc b d n => exact ⟨q.1, hi n d q.2⟩
    | fn f p => exact ⟨q.1, fun G g => q.2 G (hg.trans g)⟩
  cases o with
  | lst ts => obtain ⟨g, xs, e, r⟩ := h; exact ⟨h1 g, xs, h2 _ e, Paired.mapP r fun _ _ z => tr z⟩
  | tup ts => obtain ⟨g, xs, e, r⟩ := h; exact ⟨h1 g, xs, h2 _ e, Paired.mapP r fun _ _ z => tr z⟩
  | ins C fs => obtain ⟨g, dx, vs, e, r⟩ := h; exact ⟨h1 g, dx, vs, h2 _ e, Paired.mapP r fun _ _ z => ⟨z.1, tr z.2⟩⟩
  | dk kvs => obtain ⟨g, ws, e, r⟩ := h; exact ⟨h1 g, ws, h2 _ e, Paired.mapP r fun _ _ z => ⟨z.1, tr z.2⟩⟩
  | dt kvs => obtain ⟨g, ws, e, r⟩ := h; exact ⟨h1 g, ws, h2 _ e, Paired.mapP r fun _ _ z => ⟨z.1, tr z.2⟩⟩
  | lk kvs od ws => obtain ⟨g, e, r⟩ := h; exact ⟨h1 g, h2 _ e, Paired.mapP r fun _ _ z => ⟨z.1, tr z.2⟩⟩
  | xd t => obtain ⟨g, v, e, r⟩ := h; exact ⟨h1 g, v, h2 _ e, tr r⟩
  | frz d => exact dp_up hg h
  | gone => trivial
theorem nd_ix {l : List Addr} (h : l.Nodup) {n m : Nat} {a : Addr} (h1 : l[n]? = some a) (h2 : l[m]? = some a) : n = m := by
  exact (List.getElem?_inj (List.getElem?_eq_some_iff.mp h1).1 h).mp (h1.trans h2.symm)
theorem upd_noneB {H : Hp} {a b : Addr} {o : HO} (h : upd H a o b = none) : H b = none := by
  by_cases e : b = a
  · subst e; rw [upd_same] at h; cases h
  · rw [upd_ne e] at h; exact h
/-- a new object becomes a place -/
theorem Rel.new (r : Rel K s μ) {p : Addr} {o : O} {ho : HO} (hp : s.H p = none) (hn : OR K ⟨s.ι ++ [p], s.G, upd s.H p ho⟩ p o) (hk : Nk ho) :
    Rel K ⟨s.ι ++ [p], s.G, upd s.H p ho⟩ (μ ++ [o]) ∧ Ext s ⟨s.ι ++ [p], s.G, upd s.H p ho⟩ := by
  have gp : s.G p = none := by
    cases q : s.G p with
    | none => rfl
    | some u => rw [r.sub p u q] at hp; cases hp
  have nm : p ∉ s.ι := fun m => r.thr p m hp
  refine ⟨⟨fun b u q => ?_, ?_, ?_, fun n a u h1 h2 => ?_, fun a h => ?_, fun a o h q => ?_, r.tb.new hp⟩, ⟨⟨[p], rfl⟩, Same.refl _, fun b u q _ _ => ?_, fun _ h h' => absurd h' h, fun b h m => ?_, fun b h => .inl (upd_noneB h)⟩⟩
  · have q' := r.sub b u q
    show upd s.H p ho b = some u
    rw [upd_ne (ne_of_none q' hp)]
    exact q'
  · exact List.nodup_append.mpr ⟨r.nd, by simp, fun x hx y hy => by rw [List.mem_singleton] at hy; subst hy; intro e; subst e; exact nm hx⟩
  · show (s.ι ++ [p]).length = (μ ++ [o]).length
    rw [List.length_append, List.length_append, r.len]
    rfl
  · have h1 : (s.ι ++ [p])[n]? = some a := h1
    by_cases hl : n < s.ι.length
    · rw [List.getElem?_append_left hl] at h1
      rw [List.getElem?_append_left (by rw [← r.len]; exact hl)] at h2
      have na : a ≠ p := fun e => nm (e ▸ List.mem_of_getElem? h1)
      refine OR.same (s := s) (Same.refl _) (fun m b q => ?_) (fun g => g) (fun u q => ?_) (r.ob n a u h1 h2)
      · show (s.ι ++ [p])[m]? = some b
        rw [List.getElem?_append_left (List.getElem?_eq_some_iff.mp q).1]
        exact q
      · show upd s.H p ho a = some u
        rw [upd_ne na]; exact q
    · have hn' : n = s.ι.length := by
        have := (List.getElem?_eq_some_iff.mp h1).1
        rw [List.length_append, List.length_singleton] at this
        omega
      subst hn'
      have e1 : a = p := by simpa using h1.symm
      have e2 : u = o := by rw [r.len] at h2; simpa using h2.symm
      subst e1 e2
      exact hn
  · have h : a ∈ s.ι ++ [p] := h
    show upd s.H p ho a ≠ none
    by_cases e : a = p
    · subst e; rw [upd_same]; simp
    · rw [upd_ne e]
      rcases List.mem_append.mp h with z | z
      · exact r.thr a z
      · exact absurd (List.mem_singleton.mp z) e
  · have h : a ∈ s.ι ++ [p] := h
    have q : upd s.H p ho a = some o := q
    by_cases e : a = p
    · subst e; rw [upd_same] at q; cases q; exact hk
    · rw [upd_ne e] at q
      rcases List.mem_append.mp h with z | z
      · exact r.nk a o z q
      · exact absurd (List.mem_singleton.mp z) e
  · show upd s.H p ho b = some u
    rw [upd_ne (ne_of_none q hp)]; exact q
  · have h : b ∈ s.ι ++ [p] := h
    rcases List.mem_append.mp h with z | z
    · exact absurd z m
    · rw [List.mem_singleton.mp z]; exact hp
/-- a new object is data from the first on -/
theorem Rel.newd (r : Rel K s μ) {p : Addr} {ho : HO} (hp : s.H p = none) (nt : ∀ ps, ho ≠ .tbl ps := by intro _ h; cases h) : Rel K ⟨s.ι, upd s.G p ho, upd s.H p ho⟩ μ ∧ Ext s ⟨s.ι, upd s.G p ho, upd s.H p ho⟩ := by
  have gp : s.G p = none := by
    cases q : s.G p with
    | none => rfl
    | some u => rw [r.sub p u q] at hp; cases hp
  have nm : p ∉ s.ι := fun m => r.thr p m hp
  have sg : Same s.G (upd s.G p ho) := fun b u q => by rw [upd_ne (ne_of_none q gp)]; exact q
  refine ⟨⟨fun b u q => ?_, r.nd, r.len, fun n a u h1 h2 => ?_, fun a h => ?_, fun a o h q => ?_, (r.tb.new hp).gup nt⟩, ⟨⟨[], by simp⟩, sg, fun b u q _ _ => ?_, fun b h h' => ?_, fun b h m => absurd h m, fun b h => .inl (upd_noneB h)⟩⟩
  · have q : upd s.G p ho b = some u := q
    show upd s.H p ho b = some u
    by_cases e : b = p
    · subst e; rw [upd_same] at q ⊢; exact q
    · rw [upd_ne e] at q ⊢; exact r.sub b u q
  · have na : a ≠ p := fun e => nm (e ▸ List.mem_of_getElem? h1)
    exact OR.same (s := s) sg (fun m b q => q) (fun g => by show upd s.G p ho a = none; rw [upd_ne na]; exact g) (fun u q => by show upd s.H p ho a = some u; rw [upd_ne na]; exact q) (r.ob n a u h1 h2)
  · show upd s.H p ho a ≠ none
    rw [upd_ne (show a ≠ p from fun e => nm (e ▸ h))]
    exact r.thr a h
  · have q : upd s.H p ho a = some o := q
    rw [upd_ne (show a ≠ p from fun e => nm (e ▸ h))] at q
    exact r.nk a o h q
  · show upd s.H p ho b = some u
    rw [upd_ne (ne_of_none q hp)]; exact q
  · have h : upd s.G p ho b ≠ none := h
    by_cases e : b = p
    · subst e; exact .inl hp
    · rw [upd_ne e] at h; exact absurd h' h
/-- a place is written -/
theorem Rel.put (r : Rel K s μ) {n : Nat} {a : Addr} {o : O} {ho : HO} (hn : s.ι[n]? = some a) (hg : s.G a = none) (ho' : OR K ⟨s.ι, s.G, upd s.H a ho⟩ a o) (hk : Nk ho) :
    Rel K ⟨s.ι, s.G, upd s.H a ho⟩ (μ.set n o) ∧ Ext s ⟨s.ι, s.G, upd s.H a ho⟩ := by
  refine ⟨⟨fun b u q => ?_, r.nd, by rw [List.length_set]; exact r.len, fun m b u h1 h2 => ?_, fun b h => ?_, fun b u h q => ?_, r.tb.upd fun o e => r.nk a o (List.mem_of_getElem? hn) e⟩, ⟨⟨[], by simp⟩, Same.refl _, fun b u q m _ => ?_, fun _ h h' => absurd h' h, fun b h m => absurd h m, fun b h => .inl (upd_noneB h)⟩⟩
  · show upd s.H a ho b = some u
    rw [upd_ne (ne_of_none q hg)]; exact r.sub b u q
  · by_cases e : n = m
    · subst e
      rw [List.getElem?_set_self (by rw [← r.len]; exact (List.getElem?_eq_some_iff.mp hn).1)] at h2
      have e1 : b = a := by have z : some a = some b := hn.symm.trans h1; cases z; rfl
      cases h2
      subst e1
      exact ho'
    · rw [List.getElem?_set_ne e] at h2
      have nb : b ≠ a := fun z => e (nd_ix r.nd hn (z ▸ h1))
      exact OR.same (s := s) (Same.refl _) (fun m b q => q) (fun g => g) (fun u q => by show upd s.H a ho b = some u; rw [upd_ne nb]; exact q) (r.ob m b u h1 h2)
  · show upd s.H a ho b ≠ none
    by_cases e : b = a
    · subst e; rw [upd_same]; simp
    · rw [upd_ne e]; exact r.thr b h
  · have q : upd s.H a ho b = some u := q
    by_cases e : b = a
    · subst e; rw [upd_same] at q; cases q; exact hk
    · rw [upd_ne e] at q; exact r.nk b u h q
  · show upd s.H a ho b = some u
    rw [upd_ne (show b ≠ a from fun e => m (e ▸ List.mem_of_getElem? hn))]; exact q
/-- a place is frozen: from now on a datum -/
theorem Rel.freeze (r : Rel K s μ) {n : Nat} {a : Addr} {ho : HO} {d : PyData} (hn : s.ι[n]? = some a) (hg : s.G a = none) (hh : s.H a = some ho) (hd : Dp K (upd s.G a ho) (.ref a) d) :
    Rel K ⟨s.ι, upd s.G a ho, s.H⟩ (μ.set n (.frz d)) ∧ Ext s ⟨s.ι, upd s.G a ho, s.H⟩ := by
  have sg : Same s.G (upd s.G a ho) := fun b u q => by rw [upd_ne (ne_of_none q hg)]; exact q
  refine ⟨⟨fun b u q => ?_, r.nd, by rw [List.length_set]; exact r.len, fun m b u h1 h2 => ?_, r.thr, r.nk, r.tb.gup (r.nk a ho (List.mem_of_getElem? hn) hh).tb⟩, ⟨⟨[], by simp⟩, sg, fun b u q _ _ => q, fun b h h' => ?_, fun b h m => absurd h m, fun b h => .inl h⟩⟩
  · have q : upd s.G a ho b = some u := q
    by_cases e : b = a
    · subst e; rw [upd_same] at q; cases q; exact hh
    · rw [upd_ne e] at q; exact r.sub b u q
  · by_cases e : n = m
    · subst e
      rw [List.getElem?_set_self (by rw [← r.len]; exact (List.getElem?_eq_some_iff.mp hn).1)] at h2
      have e1 : b = a := by have z : some a = some b := hn.symm.trans h1; cases z; rfl
      cases h2
      subst e1
      exact hd
    · rw [List.getElem?_set_ne e] at h2
      have nb : b ≠ a := fun z => e (nd_ix r.nd hn (z ▸ h1))
      exact OR.same (s := s) sg (fun m b q => q) (fun g => by show upd s.G a ho b = none; rw [upd_ne nb]; exact g) (fun u q => q) (r.ob m b u h1 h2)
  · have h : upd s.G a ho b ≠ none := h
    by_cases e : b = a
    · subst e; exact .inr (.inl (List.mem_of_getElem? hn))
    · rw [upd_ne e] at h; exact absurd h' h
/-- a tuple of keys, wherever it stands, is a datum from now on -/
theorem Rel.adopt (r : Rel K s μ) {b : Addr} {ks : List Key} (hb : s.H b = some (.tup (ks.map kV))) : Rel K ⟨s.ι, upd s.G b (.tup (ks.map kV)), s.H⟩ μ ∧ Ext s ⟨s.ι, upd s.G b (.tup (ks.map kV)), s.H⟩ := by
  have nm : b ∉ s.ι := fun m => (r.nk b _ m hb).ks ks rfl
  have sg : Same s.G (upd s.G b (.tup (ks.map kV))) := fun c u q => by
    by_cases e : c = b
    · subst e
      have := r.sub c u q
      rw [hb] at this
      cases this
      rw [upd_same]
    · rw [upd_ne e]; exact q
  refine ⟨⟨fun c u q => ?_, r.nd, r.len, fun n a u h1 h2 => ?_, r.thr, r.nk, r.tb.gup fun _ z => (nomatch z)⟩, ⟨⟨[], by simp⟩, sg, fun c u q _ _ => q, fun c h h' => ?_, fun c h m => absurd h m, fun b h => .inl h⟩⟩
  · have q : upd s.G b (.tup (ks.map kV)) c = some u := q
    by_cases e : c = b
    · subst e; rw [upd_same] at q; cases q; exact hb
    · rw [upd_ne e] at q; exact r.sub c u q
  · have na : a ≠ b := fun e => nm (e ▸ List.mem_of_getElem? h1)
    exact OR.same (s := s) sg (fun m c q => q) (fun g => by show upd s.G b (.tup (ks.map kV)) a = none; rw [upd_ne na]; exact g) (fun u q => q) (r.ob n a u h1 h2)
  · have h : upd s.G b (.tup (ks.map kV)) c ≠ none := h
    by_cases e : c = b
    · subst e; exact .inr (.inr ⟨_, hb, fun n => n.ks ks rfl⟩)
    · rw [upd_ne e] at h; exact absurd h' h
end
end DL
/-! TB1: finite tables: states alike, the least table in the order of texts. Plain mathematics. -/
namespace DL
namespace Tb
/-! ### lists without doubles -/
section
variable {α : Type} [DecidableEq α]
/-- the first place of a thing -/
def ix : List α → α → Nat
  | [], _ => 0
  | y :: l, x => if y = x then 0 else ix l x + 1
theorem ix_lt : ∀ {l : List α} {x : α}, x ∈ l → ix l x < l.length
  | y :: l, x, h => by
    unfold ix
    split
    · simp
    · rename_i ne
      rcases List.mem_cons.mp h with e | m
      · exact absurd e.symm ne
      · have := ix_lt m
        simp
        omega
theorem ix_at : ∀ {l : List α} {x : α}, x ∈ l → l[ix l x]? = some x
  | y :: l, x, h => by
    unfold ix
    split
    · rename_i e
      simp [e]
    · rename_i ne
      rcases List.mem_cons.mp h with e | m
      · exact absurd e.symm ne
      · simpa using ix_at m
theorem ix_le {l : List α} {x : α} {i : Nat} (h : l[i]? = some x) : ix l x ≤ i := by
  induction l generalizing i with
  | nil => simp at h
  | cons y l ih =>
    unfold ix
    split
    · omega
    · rename_i ne
      cases i with
      | zero => exact absurd (by simpa using h) ne
      | succ i => have := ih (i := i) (by simpa using h); omega
def add (l : List α) (x : α) : List α := if x ∈ l then l else l ++ [x]
/-- each thing once, as first met -/
def nub (l : List α) : List α := l.foldl add []
theorem snoc_ind {P : List α → Prop} (h0 : P []) (h1 : ∀ l x, P l → P (l ++ [x])) (l : List α) : P l := by
  have : ∀ n, ∀ l : List α, l.length = n → P l := fun n => by
    induction n with
    | zero => intro l e; rw [List.eq_nil_of_length_eq_zero e]; exact h0
    | succ n ih =>
      intro l e
      have e2 : l.take n ++ [l[n]] = l := by
        have := List.take_succ (l := l) (i := n)
        rw [List.getElem?_eq_getElem (by omega), List.take_of_length_le (by omega)] at this
        exact this.symm
      rw [← e2]
      exact h1 _ _ (ih _ (by rw [List.length_take]; omega))
  exact this _ l rfl
/-- pigeons -/
theorem nd_sub {l m : List α} (h : l.Nodup) (s : ∀ x ∈ l, x ∈ m) : l.length ≤ m.length := by
  induction l generalizing m with
  | nil => simp
  | cons x l ih =>
    obtain ⟨h1, h2⟩ := List.nodup_cons.mp h
    have hx := s x List.mem_cons_self
    have := ih (m := m.erase x) h2 (fun y hy => (List.mem_erase_of_ne (fun e => h1 (by rw [← e]; exact hy))).mpr (s y (List.mem_cons_of_mem _ hy)))
    rw [List.length_erase_of_mem hx] at this
    have := List.length_pos_of_mem hx
    simp
    omega
end
/-- how many unlike things -/
def cnt {α : Type} [DecidableEq α] (l : List α) : Nat := (nub l).length
/-! ### tables -/
abbrev Rows := List (List Nat)
def stp (R : Rows) (s a : Nat) : Nat := (R.getD s []).getD a 0
def rn (R : Rows) (s : Nat) (w : List Nat) : Nat := w.foldl (stp R) s
def acc (R : Rows) (E : List Nat) (s : Nat) (w : List Nat) : Bool := decide (rn R s w ∈ E)
structure Gt (m : Nat) (R : Rows) : Prop where
  ne : 0 < R.length
  w : ∀ r ∈ R, r.length = m
  lt : ∀ r ∈ R, ∀ x ∈ r, x < R.length
/-- from both states the same texts are held -/
def Lq (m : Nat) (R : Rows) (E : List Nat) (R' : Rows) (E' : List Nat) (s s' : Nat) : Prop := ∀ w : List Nat, (∀ a ∈ w, a < m) → acc R E s w = acc R' E' s' w
theorem Lq.refl {m : Nat} {R : Rows} {E : List Nat} (s : Nat) : Lq m R E R E s s := fun _ _ => rfl
theorem Lq.symm {m : Nat} {R R' : Rows} {E E' : List Nat} {s s' : Nat} (h : Lq m R E R' E' s s') : Lq m R' E' R E s' s := fun w hw => (h w hw).symm
theorem Lq.trans {m : Nat} {R R' R2 : Rows} {E E' E2 : List Nat} {s s' s2 : Nat} (h : Lq m R E R' E' s s') (k : Lq m R' E' R2 E2 s' s2) : Lq m R E R2 E2 s s2 := fun w hw => (h w hw).trans (k w hw)
theorem Lq.step {m : Nat} {R R' : Rows} {E E' : List Nat} {s s' a : Nat} (h : Lq m R E R' E' s s') (ha : a < m) : Lq m R E R' E' (stp R s a) (stp R' s' a) := fun w hw => h (a :: w) fun b hb => by
  rcases List.mem_cons.mp hb with rfl | hb
  · exact ha
  · exact hw b hb
theorem Lq.nil {m : Nat} {R R' : Rows} {E E' : List Nat} {s s' : Nat} (h : Lq m R E R' E' s s') : (s ∈ E) ↔ (s' ∈ E') := by
  have := h [] (by simp)
  exact decide_eq_decide.mp (show decide (s ∈ E) = decide (s' ∈ E') from this)
/-- by a relation that steps keep -/
theorem Lq.bis {m : Nat} {R R' : Rows} {E E' : List Nat} (B : Nat → Nat → Prop) (he : ∀ s s', B s s' → (s ∈ E ↔ s' ∈ E')) (hs : ∀ s s' a, B s s' → a < m → B (stp R s a) (stp R' s' a)) {s s' : Nat} (h : B s s') : Lq m R E R' E' s s' := fun w => by
  induction w generalizing s s' with
  | nil => intro _; exact decide_eq_decide.mpr (he s s' h)
  | cons a w ih => intro hw; exact ih (hs s s' a h (hw a List.mem_cons_self)) fun b hb => hw b (List.mem_cons_of_mem _ hb)
section
variable {m : Nat} {R : Rows} {E : List Nat}
theorem Gt.stp (g : Gt m R) {s a : Nat} (hs : s < R.length) (ha : a < m) : stp R s a < R.length := by
  unfold Tb.stp
  have e : R.getD s [] = R[s] := by rw [List.getD_eq_getElem?_getD, List.getElem?_eq_getElem hs]; rfl
  have l := g.w R[s] (List.getElem_mem hs)
  rw [e, List.getD_eq_getElem?_getD, List.getElem?_eq_getElem (by omega)]
  exact g.lt R[s] (List.getElem_mem hs) _ (List.getElem_mem _)
/-! ### classes -/
def mk (R : Rows) (cl : List Nat) (k : Nat) : List Nat := cl.getD k 0 :: (R.getD k []).map fun x => cl.getD x 0
end
/-! ### the table of classes, in the order in which they are met -/
abbrev St := List Nat × List Nat
end Tb
end DL
/-! DL2: judgements of the data layer, expressions. -/
namespace DL
open PySem PySem.Spec L2
abbrev KT := T → Mu → Prop
abbrev KX := Addr → T → Mu → Prop
abbrev KB := Bool → Mu → Prop
abbrev KA := List T → Mu → Prop
abbrev WpE := En → Mu → KT → KX → Prop
abbrev WpT := En → Mu → KB → KX → Prop
abbrev WpA := En → Mu → KA → KX → Prop
/-- an error's own dict, made since s -/
structure XdAt (s s' : S) (d : Addr) (v : V) : Prop where
  h : s'.H d = some (.xd [(("value" : Str), v)])
  o : s.H d = none
  g : s'.G d = none
  n : d ∉ s'.ι
theorem XdAt.back {s s1 s' : S} {d : Addr} {v : V} (x : XdAt s1 s' d v) (e : Ext s s1) (e' : Ext s1 s') : XdAt s s' d v := by
  refine ⟨x.h, ?_, x.g, x.n⟩
  rcases e.none_back x.o with z | z
  · exact z
  · obtain ⟨l, q⟩ := (e.trans e').io
    exact absurd (by rw [q]; exact List.mem_append_left _ z) x.n
/-- what a raised error leads to -/
def Thr (K : PySem.W.Frag) (W : WX) (σ : St) (s : S) (PX : KX) : Prop :=
  ∀ (s' : S) (C d : Addr) (v : V) (t : T) (μ : Mu), Ext s s' → Rel K s' μ → XdAt s s' d v → TR K s' t v → PX C t μ → W (.ref C) (some d) σ s'.H
theorem Thr.up {K : PySem.W.Frag} {W : WX} {σ : St} {s s1 : S} {PX : KX} (h : Thr K W σ s PX) (e : Ext s s1) : Thr K W σ s1 PX := fun s' C d v t μ e' r h1 h2 h3 => h s' C d v t μ (e.trans e') r (h1.back e e') h2 h3
def SnE (K : PySem.W.Frag) (W : WX) (te : TE) (w : WpE) : Prop :=
  ∀ (s : S) (μ : Mu) (env : En) (σ : St) (P : KT) (PX : KX), Rel K s μ → EnR K s env σ → w env μ P PX → Thr K W σ s PX →
    ∀ Q : VK, (∀ s' v t μ', Ext s s' → Rel K s' μ' → TR K s' t v → P t μ' → Q v s'.H) → te σ s.H Q
def SnT (K : PySem.W.Frag) (W : WX) (te : TT) (w : WpT) : Prop :=
  ∀ (s : S) (μ : Mu) (env : En) (σ : St) (P : KB) (PX : KX), Rel K s μ → EnR K s env σ → w env μ P PX → Thr K W σ s PX →
    ∀ Q : Bool → Hp → Prop, (∀ s' b μ', Ext s s' → Rel K s' μ' → P b μ' → Q b s'.H) → te σ s.H Q
def SnA (K : PySem.W.Frag) (W : WX) (ta : TA) (w : WpA) : Prop :=
  ∀ (s : S) (μ : Mu) (env : En) (σ : St) (P : KA) (PX : KX), Rel K s μ → EnR K s env σ → w env μ P PX → Thr K W σ s PX →
    ∀ Q : List V → Hp → Prop, (∀ s' vs ts μ', Ext s s' → Rel K s' μ' → TRs K s' ts vs → P ts μ' → Q vs s'.H) → ta σ s.H Q
structure JE (X : Cx) (W : WX) (e : Expr) (w : WpE) : Prop where
  ex : ∃ te, PE X e te ∧ SnE X.K W te w
structure JT (X : Cx) (W : WX) (e : Expr) (w : WpT) : Prop where
  ex : ∃ te, PT X e te ∧ SnT X.K W te w
structure JW (X : Cx) (W : WX) (e : Expr) (w : WpT) : Prop where
  ex : ∃ te, PW X e te ∧ SnT X.K W te w
structure JA (X : Cx) (W : WX) (es : List Expr) (w : WpA) : Prop where
  ex : ∃ ta, PA X es ta ∧ SnA X.K W ta w
/-! ### reading values -/
def nm (μ : Mu) : T → T
  | .dat d => .dat d
  | .exc a d n => .exc a d n
  | .fn f p => .fn f p
  | .loc n => match μ[n]? with
    | some (.frz d) => .dat d
    | _ => .loc n
def rdL (μ : Mu) : T → Option (List T)
  | .dat (.list ds) => some (ds.map .dat)
  | .loc n => match μ[n]? with
    | some (.lst ts) => some ts
    | some (.frz (.list ds)) => some (ds.map .dat)
    | _ => none
  | _ => none
def rdT (μ : Mu) : T → Option (List T)
  | .dat (.tuple ds) => some (ds.map .dat)
  | .loc n => match μ[n]? with
    | some (.tup ts) => some ts
    | some (.frz (.tuple ds)) => some (ds.map .dat)
    | _ => none
  | _ => none
mutual
/-- as a datum, to a depth -/
def toD : Nat → Mu → T → Option PyData
  | _, _, .dat d => some d
  | _, _, .exc _ _ _ => none
  | _, _, .fn _ _ => none
  | 0, _, .loc _ => none
  | k + 1, μ, .loc n => match μ[n]? with
    | some (.lst ts) => (toDs k μ ts).map .list
    | some (.tup ts) => (toDs k μ ts).map .tuple
    | some (.frz d) => some d
    | _ => none
  termination_by k _ _ => (k, 0, 0)
def toDs : Nat → Mu → List T → Option (List PyData)
  | _, _, [] => some []
  | k, μ, t :: ts => match toD k μ t, toDs k μ ts with
    | some d, some ds => some (d :: ds)
    | _, _ => none
  termination_by k _ ts => (k, 1, ts.length)
end
theorem toD_dat (k : Nat) (μ : Mu) (d : PyData) : toD k μ (.dat d) = some d := by cases k <;> simp [toD]
theorem toDs_dats (k : Nat) (μ : Mu) : ∀ ds : List PyData, toDs k μ (ds.map T.dat) = some ds
  | [] => by simp [toDs]
  | d :: ds => by
    rw [List.map_cons, toDs, toD_dat, toDs_dats k μ ds]
section
variable {K : PySem.W.Frag} {s s' : S} {μ μ' : Mu} {t : T} {v : V} {W : WX}
theorem nm_ok (r : Rel K s μ) (h : TR K s t v) : TR K s (nm μ t) v := by
  cases t with
  | dat d => exact h
  | exc a d n => exact h
  | fn f p => exact h
  | loc n =>
    obtain ⟨a, h1, h2⟩ := h
    show TR K s (match μ[n]? with
      | some (.frz d) => .dat d
      | _ => .loc n) v
    split
    · rename_i d hd
      subst h2
      exact r.ob n a _ h1 hd
    · exact ⟨a, h1, h2⟩
theorem dp_list {G : Hp} {v : V} {ds : List PyData} (h : Dp K G v (.list ds)) : ∃ a xs, v = .ref a ∧ SqL K G a xs ∧ DpAll K G xs ds := by
  cases h with
  | lst h1 h2 => exact ⟨_, _, rfl, h1, h2⟩
theorem dp_tup {G : Hp} {v : V} {ds : List PyData} (h : Dp K G v (.tuple ds)) : ∃ a xs, v = .ref a ∧ SqT K G a xs ∧ DpAll K G xs ds := by
  cases h with
  | tup h1 h2 => exact ⟨_, _, rfl, SqT.of h1, h2⟩
theorem rdL_ok (r : Rel K s μ) (h : TR K s t v) {ts : List T} (e : rdL μ t = some ts) : ∃ a xs, v = .ref a ∧ SqL K s.H a xs ∧ TRs K s ts xs := by
  have aux : ∀ {d : PyData} {ds : List PyData}, Dp K s.G v (.list ds) → ∃ a xs, v = .ref a ∧ SqL K s.H a xs ∧ TRs K s (ds.map T.dat) xs := fun hd => by
    obtain ⟨a, xs, h1, h2, h3⟩ := dp_list hd
    exact ⟨a, xs, h1, r.sub.seq h2, TRs.of_dats h3⟩
  cases t with
  | dat d =>
    cases d <;> simp [rdL] at e
    subst e
    exact aux (d := .none) h
  | exc a d n => cases e
  | fn f p => cases e
  | loc n =>
    obtain ⟨a, h1, h2⟩ := h
    subst h2
    have e : (match μ[n]? with
      | some (.lst ts) => some ts
      | some (.frz (.list ds)) => some (ds.map .dat)
      | _ => none) = some ts := e
    split at e
    · rename_i ts' ho
      cases e
      obtain ⟨_, xs, hx, hr⟩ := r.ob n a _ h1 ho
      exact ⟨a, xs, rfl, SqL.of hx, hr⟩
    · rename_i ds ho
      cases e
      exact aux (d := .none) (r.ob n a _ h1 ho)
    · cases e
theorem rdT_ok (r : Rel K s μ) (h : TR K s t v) {ts : List T} (e : rdT μ t = some ts) : ∃ a xs, v = .ref a ∧ SqT K s.H a xs ∧ TRs K s ts xs := by
  have aux : ∀ {d : PyData} {ds : List PyData}, Dp K s.G v (.tuple ds) → ∃ a xs, v = .ref a ∧ SqT K s.H a xs ∧ TRs K s (ds.map T.dat) xs := fun hd => by
    obtain ⟨a, xs, h1, h2, h3⟩ := dp_tup hd
    exact ⟨a, xs, h1, Evl.ex_t r.sub h2, TRs.of_dats h3⟩
  cases t with
  | dat d =>
    cases d <;> simp [rdT] at e
    subst e
    exact aux (d := .none) h
  | exc a d n => cases e
  | fn f p => cases e
  | loc n =>
    obtain ⟨a, h1, h2⟩ := h
    subst h2
    have e : (match μ[n]? with
      | some (.tup ts) => some ts
      | some (.frz (.tuple ds)) => some (ds.map .dat)
      | _ => none) = some ts := e
    split at e
    · rename_i ts' ho
      cases e
      obtain ⟨_, xs, hx, hr⟩ := r.ob n a _ h1 ho
      exact ⟨a, xs, rfl, SqT.of hx, hr⟩
    · rename_i ds ho
      cases e
      exact aux (d := .none) (r.ob n a _ h1 ho)
    · cases e
mutual
theorem toD_ok (r : Rel K s μ) : ∀ (k : Nat) {t : T} {v : V} {d : PyData}, TR K s t v → toD k μ t = some d → L2.Dp K s.H v d
  | k, .dat d, v, d', h, e => by
    rw [toD_dat] at e
    cases e
    exact dp_old (dp_up r.sub h)
  | k, .exc a b n, v, d', h, e => by cases k <;> simp [toD] at e
  | k, .fn f p, v, d', h, e => by cases k <;> simp [toD] at e
  | 0, .loc n, v, d', h, e => by simp [toD] at e
  | k + 1, .loc n, v, d', h, e => by
    obtain ⟨a, h1, h2⟩ := h
    subst h2
    rw [toD] at e
    split at e
    · rename_i ts ho
      obtain ⟨_, xs, hx, hr⟩ := r.ob n a _ h1 ho
      cases q : toDs k μ ts with
      | none => rw [q] at e; cases e
      | some ds =>
        rw [q] at e
        cases e
        exact .lst (SqL.of hx) (toDs_ok r k hr q)
    · rename_i ts ho
      obtain ⟨_, xs, hx, hr⟩ := r.ob n a _ h1 ho
      cases q : toDs k μ ts with
      | none => rw [q] at e; cases e
      | some ds =>
        rw [q] at e
        cases e
        exact .tup (SqT.of hx) (toDs_ok r k hr q)
    · rename_i d ho
      cases e
      exact dp_old (dp_up r.sub (r.ob n a _ h1 ho))
    · cases e
  termination_by k t _ _ _ _ => (k, 0, 0)
theorem toDs_ok (r : Rel K s μ) : ∀ (k : Nat) {ts : List T} {vs : List V} {ds : List PyData}, TRs K s ts vs → toDs k μ ts = some ds → L2.DpAll K s.H vs ds
  | k, [], vs, ds, h, e => by
    cases h
    simp [toDs] at e
    subst e
    exact .nil
  | k, t :: ts, vs, ds, h, e => by
    cases h with
    | cons h1 h2 =>
      rw [toDs] at e
      split at e
      · rename_i d ds' e1 e2
        cases e
        exact .cons (toD_ok r k h1 e1) (toDs_ok r k h2 e2)
      · cases e
  termination_by k ts _ _ _ _ => (k, 1, ts.length)
end
/-! ### names, constants -/
def wVar (i : Nat) : WpE := fun env μ P _ => match env[i]? with
  | some (some t) => P t μ
  | _ => False
def wC (d : PyData) : WpE := fun _ μ P _ => P (.dat d) μ
theorem sn_var {i : Nat} : SnE K W (tVar i) (wVar i) := fun s μ env σ P PX r en h _ Q q => by
  unfold wVar at h
  split at h
  · rename_i t ht
    obtain ⟨v, h1, h2⟩ := en.get ht
    exact ⟨v, h1, q s v t μ (Ext.refl s) r h2 h⟩
  · exact h.elim
theorem sn_c {v : V} {d : PyData} (hd : ∀ G : Hp, Dp K G v d) : SnE K W (tC v) (wC d) := fun s μ env σ P PX r en h _ Q q => q s v (.dat d) μ (Ext.refl s) r (hd s.G) h
/-! ### operators -/
abbrev OD := T → T → Mu → KT → Prop
def SnO (K : PySem.W.Frag) (r : R2) (o : OD) : Prop := ∀ (s : S) (μ : Mu) (x y : T) (v u : V) (P : KT), Rel K s μ → TR K s x v → TR K s y u → o x y μ P →
  ∀ Q : VK, (∀ s' w t μ', Ext s s' → Rel K s' μ' → TR K s' t w → P t μ' → Q w s'.H) → r v u s.H Q
def wOp (o : OD) (wa wb : WpE) : WpE := fun env μ P PX => wa env μ (fun x μ1 => wb env μ1 (fun y μ2 => o x y μ2 P) PX) PX
theorem sn_op {r : R2} {o : OD} {ta tb : TE} {wa wb : WpE} (so : SnO K r o) (ha : SnE K W ta wa) (hb : SnE K W tb wb) : SnE K W (tOp r ta tb) (wOp o wa wb) := fun s μ env σ P PX rl en h th Q q => by
  refine ha s μ env σ _ PX rl en h th _ fun s1 v x μ1 e1 r1 x1 h1 => ?_
  refine hb s1 μ1 env σ _ PX r1 (en.up e1) h1 (th.up e1) _ fun s2 u y μ2 e2 r2 y2 h2 => ?_
  exact so s2 μ2 x y v u P r2 (x1.up e2) y2 h2 Q fun s3 w t μ3 e3 r3 t3 h3 => q s3 w t μ3 ((e1.trans e2).trans e3) r3 t3 h3
theorem SnO.or {r r' : R2} {o o' : OD} (h : SnO K r o) (h' : SnO K r' o') : SnO K (fun x y H Q => r x y H Q ∨ r' x y H Q) (fun x y μ P => o x y μ P ∨ o' x y μ P) := fun s μ x y v u P rl hx hy ho Q q => by
  rcases ho with z | z
  · exact .inl (h s μ x y v u P rl hx hy z Q q)
  · exact .inr (h' s μ x y v u P rl hx hy z Q q)
theorem tr_int {i : Int} (h : TR K s (.dat (.int i)) v) : v = .int i := by cases h; rfl
theorem tr_str {x : Str} (h : TR K s (.dat (.str x)) v) : v = .str x := by cases h; rfl
theorem tr_bool {b : Bool} (h : TR K s (.dat (.bool b)) v) : v = .bl b := by cases h; rfl
theorem tr_none (h : TR K s (.dat .none) v) : v = .non := by cases h; rfl
theorem mk_int (i : Int) : TR K s (.dat (.int i)) (.int i) := .int i
theorem mk_str (x : Str) : TR K s (.dat (.str x)) (.str x) := .str x
theorem mk_bool (b : Bool) : TR K s (.dat (.bool b)) (.bl b) := .bl b
theorem mk_none : TR K s (.dat .none) .non := .non
/-- two ints, a condition, a result -/
def oI (C : Int → Int → Prop) (g : Int → Int → PyData) : OD := fun x y μ P => match nm μ x, nm μ y with
  | .dat (.int i), .dat (.int j) => C i j ∧ P (.dat (g i j)) μ
  | _, _ => False
theorem sn_I {C : Int → Int → Prop} {g : Int → Int → PyData} {gv : Int → Int → V} {r : R2} (hr : ∀ i j H Q, C i j → Q (gv i j) H → r (.int i) (.int j) H Q) (hg : ∀ i j (G : Hp), Dp K G (gv i j) (g i j)) : SnO K r (oI C g) := fun s μ x y v u P rl hx hy ho Q q => by
  have h1 := nm_ok rl hx
  have h2 := nm_ok rl hy
  unfold oI at ho
  split at ho
  · rename_i i j e1 e2
    rw [e1] at h1
    rw [e2] at h2
    rw [tr_int h1, tr_int h2]
    exact hr i j _ Q ho.1 (q s (gv i j) (.dat (g i j)) μ (Ext.refl s) rl (hg i j s.G) ho.2)
  · exact ho.elim
/-- two texts -/
def oS (C : Str → Str → Prop) (g : Str → Str → PyData) : OD := fun x y μ P => match nm μ x, nm μ y with
  | .dat (.str i), .dat (.str j) => C i j ∧ P (.dat (g i j)) μ
  | _, _ => False
theorem sn_S {C : Str → Str → Prop} {g : Str → Str → PyData} {gv : Str → Str → V} {r : R2} (hr : ∀ i j H Q, C i j → Q (gv i j) H → r (.str i) (.str j) H Q) (hg : ∀ i j (G : Hp), Dp K G (gv i j) (g i j)) : SnO K r (oS C g) := fun s μ x y v u P rl hx hy ho Q q => by
  have h1 := nm_ok rl hx
  have h2 := nm_ok rl hy
  unfold oS at ho
  split at ho
  · rename_i i j e1 e2
    rw [e1] at h1
    rw [e2] at h2
    rw [tr_str h1, tr_str h2]
    exact hr i j _ Q ho.1 (q s (gv i j) (.dat (g i j)) μ (Ext.refl s) rl (hg i j s.G) ho.2)
  · exact ho.elim
end
/-! ### judgements' rules -/
section
variable {X : Cx} {W : WX} {a b e : Expr} {es : List Expr} {pos : Pos} {wa wb w : WpE} {wt wu : WpT}
theorem jv (i : Nat) {x : Str} (hN : X.N[i]? = some x := by rfl) (hv : Vis X.env.scope x := by first | exact Or.inl rfl | exact Or.inr (Or.inl rfl) | exact Or.inr (Or.inr rfl)) (hd : (x == ("__debug__" : Str)) = false := by decide)
    (hcd : (x == ("__classdict__" : Str)) = false := by decide) : JE X W (.Name x pos) (wVar i) := ⟨_, pe_var hN hv hd hcd, sn_var⟩
theorem j_int {i j} : JE X W (.Constant (.int i) j pos) (wC (.int i)) := ⟨_, pe_int, sn_c fun _ => .int i⟩
theorem j_bl {b j} : JE X W (.Constant (.bool b) j pos) (wC (.bool b)) := ⟨_, pe_bl, sn_c fun _ => .bl b⟩
theorem j_non {j} : JE X W (.Constant .none j pos) (wC .none) := ⟨_, pe_non, sn_c fun _ => .non⟩
theorem j_str {x j} : JE X W (.Constant (.str x) j pos) (wC (.str x)) := ⟨_, pe_str, sn_c fun _ => .str x⟩
theorem j_globS {x y : Str} {tk : Tok} (hm : X.mg x = some (.str y tk)) (hg : Gl X x := by rfl) (hd : (x == ("__debug__" : Str)) = false := by decide) : JE X W (.Name x pos) (wC (.str y)) := ⟨_, pe_glob (v := .str y) hg hm ⟨_, rfl⟩ hd, sn_c fun _ => .str y⟩
theorem j_globI {x : Str} {i : Int} {tk : Tok} (hm : X.mg x = some (.int i tk)) (hg : Gl X x := by rfl) (hd : (x == ("__debug__" : Str)) = false := by decide) : JE X W (.Name x pos) (wC (.int i)) := ⟨_, pe_glob (v := .int i) hg hm ⟨_, rfl⟩ hd, sn_c fun _ => .int i⟩
theorem j_op {op : Operator} {r : R2} {o : OD} (ho : OpR X (binaryOp op) r) (so : SnO X.K r o) (ha : JE X W a wa) (hb : JE X W b wb) : JE X W (.BinOp a op b pos) (wOp o wa wb) := by
  obtain ⟨_, pa, sa⟩ := ha
  obtain ⟨_, pb, sb⟩ := hb
  exact ⟨_, pe_op ho pa pb, sn_op so sa sb⟩
theorem j_cmp {op : CmpOp} {r : R2} {o : OD} (ho : OpR X (compareOp op) r) (so : SnO X.K r o) (ha : JE X W a wa) (hb : JE X W b wb) (hm : behindInMarks op b = false) : JE X W (.Compare a [op] [b] pos) (wOp o wa wb) := by
  obtain ⟨_, pa, sa⟩ := ha
  obtain ⟨_, pb, sb⟩ := hb
  exact ⟨_, pe_cmpR ho pa pb hm, sn_op so sa sb⟩
/-- a boolean value as a test -/
def asB (P : KB) : KT := fun t μ => match nm μ t with
  | .dat (.bool b) => P b μ
  | _ => False
def wB (w : WpE) : WpT := fun env μ P PX => w env μ (asB P) PX
theorem asB_ok {K : PySem.W.Frag} {s : S} {μ : Mu} {t : T} {v : V} {P : KB} (r : Rel K s μ) (h : TR K s t v) (q : asB P t μ) : ∃ b, v = .bl b ∧ P b μ := by
  unfold asB at q
  have h1 := nm_ok r h
  split at q
  · rename_i b e
    rw [e] at h1
    exact ⟨b, tr_bool h1, q⟩
  · exact q.elim
theorem sn_test {K : PySem.W.Frag} {te : TE} (h : SnE K W te w) : SnT K W (tTest te) (wB w) := fun s μ env σ P PX rl en hw th Q q => by
  refine h s μ env σ _ PX rl en hw th _ fun s' v t μ' e' r' t' h' => ?_
  obtain ⟨b, e, hb⟩ := asB_ok r' t' h'
  exact ⟨b, e, q s' b μ' e' r' hb⟩
theorem jt_cmp {op : CmpOp} {r : R2} {o : OD} (ho : OpR X (compareOp op) r) (so : SnO X.K r o) (ha : JE X W a wa) (hb : JE X W b wb) (hm : behindInMarks op b = false) : JT X W (.Compare a [op] [b] pos) (wB (wOp o wa wb)) := by
  obtain ⟨_, pa, sa⟩ := ha
  obtain ⟨_, pb, sb⟩ := hb
  exact ⟨_, pt_cmpR ho pa pb hm, sn_test (sn_op so sa sb)⟩
/-- the truth of a value -/
def truT (μ : Mu) (t : T) : Option Bool := match nm μ t with
  | .dat (.bool b) => some b
  | .dat (.int i) => some (i != 0)
  | .dat (.str z) => if z.length ≤ sizeLine then some ((z.length : Int) != 0) else none
  | .dat .none => some false
  | t' => match rdL μ t' with
    | some xs => some (!xs.isEmpty)
    | none => match rdT μ t' with
      | some xs => some (!xs.isEmpty)
      | none => none
def asTru (P : KB) : KT := fun t μ => match truT μ t with
  | some b => P b μ
  | none => False
def wTru (w : WpE) : WpT := fun env μ P PX => w env μ (asTru P) PX
theorem empty_of {K : PySem.W.Frag} {s : S} {ts : List T} {xs : List V} (h : TRs K s ts xs) : ts.isEmpty = xs.isEmpty := by cases h <;> rfl
theorem tru_of {K : PySem.W.Frag} {s : S} {μ : Mu} {t : T} {v : V} {b : Bool} (r : Rel K s μ) (h : TR K s t v) (q : truT μ t = some b) : TruV K v s.H b := by
  have h1 := nm_ok r h
  unfold truT at q
  split at q
  · rename_i b' e
    rw [e] at h1
    cases q
    rw [tr_bool h1]
    show _ = _
    rfl
  · rename_i i e
    rw [e] at h1
    cases q
    rw [tr_int h1]
    show _ = _
    rfl
  · rename_i z e
    rw [e] at h1
    split at q
    · rename_i hz
      cases q
      rw [tr_str h1]
      exact ⟨hz, rfl⟩
    · cases q
  · rename_i e
    rw [e] at h1
    cases q
    rw [tr_none h1]
    show _ = _
    rfl
  · split at q
    · rename_i xs e
      cases q
      obtain ⟨a, vs, e1, e2, e3⟩ := rdL_ok r h1 e
      subst e1
      refine .inl ⟨vs, e2, ?_⟩
      rw [empty_of e3]
    · split at q
      · rename_i xs e
        cases q
        obtain ⟨a, vs, e1, e2, e3⟩ := rdT_ok r h1 e
        subst e1
        refine .inr (.inl ⟨vs, e2, ?_⟩)
        rw [empty_of e3]
      · cases q
theorem jt_tru (h : JE X W e w) (he : ∀ whole, isTrue e X.env whole = (do let v ← whole; standAt e.pos; holding [v] (truthy v)) := by intro _; rfl) : JT X W e (wTru w) := by
  obtain ⟨_, p, sn⟩ := h
  refine ⟨_, pt_truth p he, fun s μ env σ P PX rl en hw th Q q => ?_⟩
  refine sn s μ env σ _ PX rl en hw th _ fun s' v t μ' e' r' t' h' => ?_
  unfold asTru at h'
  split at h'
  · rename_i b eb
    exact ⟨b, tru_of r' t' eb, q s' b μ' e' r' h'⟩
  · exact h'.elim
def wAnd (t u : WpT) : WpT := fun env μ P PX => t env μ (fun c μ1 => if c = true then u env μ1 P PX else P false μ1) PX
def wOr (t u : WpT) : WpT := fun env μ P PX => t env μ (fun c μ1 => if c = true then P true μ1 else u env μ1 P PX) PX
def wNot (t : WpT) : WpT := fun env μ P PX => t env μ (fun c μ1 => P (!c) μ1) PX
theorem sn_and {K : PySem.W.Frag} {t u : TT} (h : SnT K W t wt) (h' : SnT K W u wu) : SnT K W (tAnd t u) (wAnd wt wu) := fun s μ env σ P PX rl en hw th Q q => by
  refine h s μ env σ _ PX rl en hw th _ fun s1 c μ1 e1 r1 h1 => ?_
  cases c with
  | true => exact h' s1 μ1 env σ P PX r1 (en.up e1) h1 (th.up e1) Q fun s2 b μ2 e2 r2 h2 => q s2 b μ2 (e1.trans e2) r2 h2
  | false => exact q s1 false μ1 e1 r1 h1
theorem sn_or {K : PySem.W.Frag} {t u : TT} (h : SnT K W t wt) (h' : SnT K W u wu) : SnT K W (tOr t u) (wOr wt wu) := fun s μ env σ P PX rl en hw th Q q => by
  refine h s μ env σ _ PX rl en hw th _ fun s1 c μ1 e1 r1 h1 => ?_
  cases c with
  | false => exact h' s1 μ1 env σ P PX r1 (en.up e1) h1 (th.up e1) Q fun s2 b μ2 e2 r2 h2 => q s2 b μ2 (e1.trans e2) r2 h2
  | true => exact q s1 true μ1 e1 r1 h1
theorem jw_and1 (h : JT X W a wt) : JW X W (.BoolOp .And [a] pos) wt := by
  obtain ⟨_, p, s⟩ := h
  exact ⟨_, pw_and1 p, s⟩
theorem jw_or1 (h : JT X W a wt) : JW X W (.BoolOp .Or [a] pos) wt := by
  obtain ⟨_, p, s⟩ := h
  exact ⟨_, pw_or1 p, s⟩
theorem jw_and (h : JT X W a wt) (h' : JW X W (.BoolOp .And (b :: es) pos) wu) : JW X W (.BoolOp .And (a :: b :: es) pos) (wAnd wt wu) := by
  obtain ⟨_, p, s⟩ := h
  obtain ⟨_, p', s'⟩ := h'
  exact ⟨_, pw_and p p', sn_and s s'⟩
theorem jw_or (h : JT X W a wt) (h' : JW X W (.BoolOp .Or (b :: es) pos) wu) : JW X W (.BoolOp .Or (a :: b :: es) pos) (wOr wt wu) := by
  obtain ⟨_, p, s⟩ := h
  obtain ⟨_, p', s'⟩ := h'
  exact ⟨_, pw_or p p', sn_or s s'⟩
theorem JW.jt (h : JW X W e wt) : JT X W e wt := by
  obtain ⟨_, p, s⟩ := h
  exact ⟨_, p.pt, s⟩
theorem jt_not (h : JT X W a wt) : JT X W (.UnaryOp .Not a pos) (wNot wt) := by
  obtain ⟨_, p, sn⟩ := h
  refine ⟨_, pt_not p, fun s μ env σ P PX rl en hw th Q q => ?_⟩
  exact sn s μ env σ _ PX rl en hw th _ fun s1 c μ1 e1 r1 h1 => q s1 (!c) μ1 e1 r1 h1
/-- boolean values: and, or, not -/
def wAndV (wa wb : WpE) : WpE := fun env μ P PX => wa env μ (asB fun c μ1 => if c = true then wb env μ1 P PX else P (.dat (.bool false)) μ1) PX
def wOrV (wa wb : WpE) : WpE := fun env μ P PX => wa env μ (asB fun c μ1 => if c = true then P (.dat (.bool true)) μ1 else wb env μ1 P PX) PX
def wNotV (wa : WpE) : WpE := fun env μ P PX => wa env μ (asB fun c μ1 => P (.dat (.bool (!c))) μ1) PX
theorem je_one {op} (h : JE X W a wa) : JE X W (.BoolOp op [a] pos) wa := by
  obtain ⟨_, p, s⟩ := h
  exact ⟨_, pe_one p, s⟩
theorem je_and (ha : JE X W a wa) (hb : JE X W (.BoolOp .And (b :: es) pos) wb) : JE X W (.BoolOp .And (a :: b :: es) pos) (wAndV wa wb) := by
  obtain ⟨_, p, sn⟩ := ha
  obtain ⟨_, p', sn'⟩ := hb
  refine ⟨_, pe_and p p', fun s μ env σ P PX rl en hw th Q q => ?_⟩
  refine sn s μ env σ _ PX rl en hw th _ fun s1 v t μ1 e1 r1 t1 h1 => ?_
  obtain ⟨c, e, hc⟩ := asB_ok r1 t1 h1
  refine ⟨c, e, ?_⟩
  cases c with
  | true => exact sn' s1 μ1 env σ P PX r1 (en.up e1) hc (th.up e1) Q fun s2 v2 t2 μ2 e2 r2 x2 h2 => q s2 v2 t2 μ2 (e1.trans e2) r2 x2 h2
  | false => exact q s1 _ _ μ1 e1 r1 (mk_bool _) hc
def wIf (t : WpT) (wa wb : WpE) : WpE := fun env μ P PX => t env μ (fun c μ1 => if c = true then wa env μ1 P PX else wb env μ1 P PX) PX
theorem je_if {c : Expr} (hc : JT X W c wt) (ha : JE X W a wa) (hb : JE X W b wb) : JE X W (.IfExp c a b pos) (wIf wt wa wb) := by
  obtain ⟨_, pc, sc⟩ := hc
  obtain ⟨_, pa, sa⟩ := ha
  obtain ⟨_, pb, sb⟩ := hb
  refine ⟨_, pe_ifExp pc pa pb, fun s μ env σ P PX rl en hw th Q q => ?_⟩
  refine sc s μ env σ _ PX rl en hw th _ fun s1 c μ1 e1 r1 h1 => ?_
  cases c with
  | true => exact sa s1 μ1 env σ P PX r1 (en.up e1) h1 (th.up e1) Q fun s2 v2 t2 μ2 e2 r2 x2 h2 => q s2 v2 t2 μ2 (e1.trans e2) r2 x2 h2
  | false => exact sb s1 μ1 env σ P PX r1 (en.up e1) h1 (th.up e1) Q fun s2 v2 t2 μ2 e2 r2 x2 h2 => q s2 v2 t2 μ2 (e1.trans e2) r2 x2 h2
/-! arguments, displays -/
def wNil : WpA := fun _ μ P _ => P [] μ
def wCons (wa : WpE) (wr : WpA) : WpA := fun env μ P PX => wa env μ (fun x μ1 => wr env μ1 (fun xs μ2 => P (x :: xs) μ2) PX) PX
theorem ja_nil : JA X W [] wNil := ⟨_, pa_nil, fun s μ env σ P PX rl en hw th Q q => q s [] [] μ (Ext.refl s) rl .nil hw⟩
theorem ja_cons {wr : WpA} (ha : JE X W e wa) (hr : JA X W es wr) (hs : starEach (e :: es) X.env = (false, eval e X.env) :: starEach es X.env := by rfl) : JA X W (e :: es) (wCons wa wr) := by
  obtain ⟨_, pa, sa⟩ := ha
  obtain ⟨_, pr, sr⟩ := hr
  refine ⟨_, pa_cons pa pr hs, fun s μ env σ P PX rl en hw th Q q => ?_⟩
  refine sa s μ env σ _ PX rl en hw th _ fun s1 v x μ1 e1 r1 x1 h1 => ?_
  refine sr s1 μ1 env σ _ PX r1 (en.up e1) h1 (th.up e1) _ fun s2 vs ts μ2 e2 r2 x2 h2 => ?_
  exact q s2 (v :: vs) (x :: ts) μ2 (e1.trans e2) r2 (.cons (x1.up e2) x2) h2
/-- the values as data, or none -/
def allD (μ : Mu) : List T → Option (List PyData)
  | [] => some []
  | t :: ts => match nm μ t, allD μ ts with
    | .dat d, some ds => some (d :: ds)
    | _, _ => none
theorem allD_dats (μ : Mu) : ∀ ds : List PyData, allD μ (ds.map T.dat) = some ds
  | [] => rfl
  | d :: ds => by
    rw [List.map_cons]
    unfold allD
    rw [allD_dats μ ds]
    rfl
theorem allD_ok {K : PySem.W.Frag} {s : S} {μ : Mu} (r : Rel K s μ) : ∀ {ts : List T} {vs : List V} {ds : List PyData}, TRs K s ts vs → allD μ ts = some ds → DpAll K s.G vs ds
  | [], _, _, .nil, e => by cases e; exact .nil
  | t :: ts, _, _, .cons h1 h2, e => by
    unfold allD at e
    have h := nm_ok r h1
    split at e
    · rename_i d ds' e1 e2
      cases e
      rw [e1] at h
      exact .cons h (allD_ok r h2 e2)
    · cases e
/-- a new tuple -/
def mkT (ts : List T) (μ : Mu) (P : KT) : Prop := match allD μ ts with
  | some ds => P (.dat (.tuple ds)) μ
  | none => P (.loc μ.length) (μ ++ [.tup ts])
def mkL (ts : List T) (μ : Mu) (P : KT) : Prop := P (.loc μ.length) (μ ++ [.lst ts])
section
variable {K : PySem.W.Frag} {s : S} {μ : Mu} {ts : List T} {vs : List V} {P : KT} {Q : VK}
theorem mkL_ok (r : Rel K s μ) (h : TRs K s ts vs) (hp : mkL ts μ P) (q : ∀ s' v t μ', Ext s s' → Rel K s' μ' → TR K s' t v → P t μ' → Q v s'.H) {p : Addr} (fr : s.H p = none) : Q (.ref p) (upd s.H p (.lst vs)) := by
  have gp : s.G p = none := by
    cases z : s.G p with
    | none => rfl
    | some u => rw [r.sub p u z] at fr; cases fr
  have e0 : Ext s ⟨s.ι ++ [p], s.G, upd s.H p (.lst vs)⟩ := by
    exact (Rel.new (o := .gone) r fr trivial nk_lst).2
  obtain ⟨r1, e1⟩ := Rel.new (o := .lst ts) (ho := .lst vs) r fr ⟨gp, vs, upd_same, h.up e0⟩ nk_lst
  refine q ⟨s.ι ++ [p], s.G, upd s.H p (.lst vs)⟩ (.ref p) (.loc μ.length) _ e1 r1 ⟨p, ?_, rfl⟩ hp
  show (s.ι ++ [p])[μ.length]? = some p
  rw [← r.len]
  simp
theorem ref_of_allD : ∀ {ts : List T} {vs : List V}, TRs K s ts vs → allD μ ts = none → ∃ a, V.ref a ∈ vs
  | [], _, .nil, e => by cases e
  | t :: ts, _, .cons (b := v) h1 h2, e => by
    unfold allD at e
    cases t with
    | dat d =>
      cases q : allD μ ts with
      | none =>
        obtain ⟨a, m⟩ := ref_of_allD h2 q
        exact ⟨a, List.mem_cons_of_mem _ m⟩
      | some ds =>
        rw [q] at e
        simp [nm] at e
    | loc n =>
      obtain ⟨a, _, rfl⟩ := h1
      exact ⟨a, List.mem_cons_self⟩
    | exc a d n =>
      obtain ⟨rfl, _⟩ := h1
      exact ⟨a, List.mem_cons_self⟩
    | fn f p =>
      obtain ⟨rfl, _⟩ := h1
      exact ⟨f, List.mem_cons_self⟩
theorem mkT_ok (r : Rel K s μ) (h : TRs K s ts vs) (hp : mkT ts μ P) (q : ∀ s' v t μ', Ext s s' → Rel K s' μ' → TR K s' t v → P t μ' → Q v s'.H) {p : Addr} (fr : s.H p = none) : Q (.ref p) (upd s.H p (.tup vs)) := by
  unfold mkT at hp
  split at hp
  · rename_i ds e
    obtain ⟨r1, e1⟩ := Rel.newd (ho := .tup vs) r fr
    refine q ⟨s.ι, upd s.G p (.tup vs), upd s.H p (.tup vs)⟩ (.ref p) _ μ e1 r1 ?_ hp
    exact Dp.tup upd_same (dpAll_up e1.g (allD_ok r h e))
  · rename_i en
    obtain ⟨ra, rm⟩ := ref_of_allD h en
    have gp : s.G p = none := by
      cases z : s.G p with
      | none => rfl
      | some u => rw [r.sub p u z] at fr; cases fr
    have e0 : Ext s ⟨s.ι ++ [p], s.G, upd s.H p (.tup vs)⟩ := by
      exact (Rel.new (o := .gone) r fr trivial (nk_tup rm)).2
    obtain ⟨r1, e1⟩ := Rel.new (o := .tup ts) (ho := .tup vs) r fr ⟨gp, vs, upd_same, h.up e0⟩ (nk_tup rm)
    refine q ⟨s.ι ++ [p], s.G, upd s.H p (.tup vs)⟩ (.ref p) (.loc μ.length) _ e1 r1 ⟨p, ?_, rfl⟩ hp
    show (s.ι ++ [p])[μ.length]? = some p
    rw [← r.len]
    simp
end
def wTup (wa : WpA) : WpE := fun env μ P PX => wa env μ (fun ts μ1 => ts.length ≤ sizeLine ∧ mkT ts μ1 P) PX
def wLst (wa : WpA) : WpE := fun env μ P PX => wa env μ (fun ts μ1 => ts.length ≤ sizeLine ∧ mkL ts μ1 P) PX
theorem je_tup {x1} {w : WpA} (h : JA X W es w) : JE X W (.Tuple es x1 pos) (wTup w) := by
  obtain ⟨_, p, sn⟩ := h
  refine ⟨_, pe_tup p, fun s μ env σ P PX rl en hw th Q q => ?_⟩
  refine sn s μ env σ _ PX rl en hw th _ fun s1 vs ts μ1 e1 r1 x1 h1 => ⟨by rw [← x1.len]; exact h1.1, fun p hp => ?_⟩
  exact mkT_ok r1 x1 h1.2 (fun s2 v t μ2 e2 r2 x2 h2 => q s2 v t μ2 (e1.trans e2) r2 x2 h2) hp
theorem je_lst {w : WpA} (h : JA X W es w) : JE X W (.List es pos) (wLst w) := by
  obtain ⟨_, p, sn⟩ := h
  refine ⟨_, pe_lst p, fun s μ env σ P PX rl en hw th Q q => ?_⟩
  refine sn s μ env σ _ PX rl en hw th _ fun s1 vs ts μ1 e1 r1 x1 h1 => ⟨by rw [← x1.len]; exact h1.1, fun p hp => ?_⟩
  exact mkL_ok r1 x1 h1.2 (fun s2 v t μ2 e2 r2 x2 h2 => q s2 v t μ2 (e1.trans e2) r2 x2 h2) hp
/-! built-in functions -/
abbrev CD := List T → Mu → KT → Prop
def SnC (K : PySem.W.Frag) (r : List V → Hp → VK → Prop) (c : CD) : Prop := ∀ (s : S) (μ : Mu) (ts : List T) (vs : List V) (P : KT), Rel K s μ → TRs K s ts vs → c ts μ P →
  ∀ Q : VK, (∀ s' w t μ', Ext s s' → Rel K s' μ' → TR K s' t w → P t μ' → Q w s'.H) → r vs s.H Q
def wCB (c : CD) (wa : WpA) : WpE := fun env μ P PX => wa env μ (fun ts μ1 => c ts μ1 P) PX
theorem sn_cb {K : PySem.W.Frag} {r : List V → Hp → VK → Prop} {c : CD} {ta : TA} {w : WpA} (sc : SnC K r c) (sa : SnA K W ta w) : SnE K W (tCB r ta) (wCB c w) := fun s μ env σ P PX rl en hw th Q q => by
  refine sa s μ env σ _ PX rl en hw th _ fun s1 vs ts μ1 e1 r1 x1 h1 => ?_
  exact sc s1 μ1 ts vs P r1 x1 h1 Q fun s2 v t μ2 e2 r2 x2 h2 => q s2 v t μ2 (e1.trans e2) r2 x2 h2
theorem je_callB {x : Str} {p : Pos} {id : String} {r : List V → Hp → VK → Prop} {c : CD} {w : WpA} (hc : CallR X (.builtin id) r) (sc : SnC X.K r c) (hm : X.mg x = none) (hv : bootBuiltins x = some (.builtin id)) (ha : JA X W (e :: es) w) (hg : Gl X x := by rfl) (hn : x ≠ "__name__" := by decide) (hdb : (x == ("__debug__" : Str)) = false := by decide)
    (he : starEach (e :: es) X.env = (false, eval e X.env) :: starEach es X.env := by rfl) (hpl : (backTo pos (starEach es X.env)).any (·.1) = false := by rfl) : JE X W (.Call (.Name x p) (e :: es) [] pos) (wCB c w) := by
  obtain ⟨_, pa, sa⟩ := ha
  exact ⟨_, pe_callB hc hg hm hv pa hn hdb he hpl, sn_cb sc sa⟩
theorem je_callTy {x : Str} {p : Pos} {T : String} {r : List V → Hp → VK → Prop} {c : CD} {w : WpA} (hc : CallR X (.type T) r) (sc : SnC X.K r c) (hm : X.mg x = none) (hv : bootBuiltins x = some (.type T)) (ha : JA X W (e :: es) w) (hg : Gl X x := by rfl) (hn : x ≠ "__name__" := by decide) (hdb : (x == ("__debug__" : Str)) = false := by decide)
    (he : starEach (e :: es) X.env = (false, eval e X.env) :: starEach es X.env := by rfl) (hpl : (backTo pos (starEach es X.env)).any (·.1) = false := by rfl) : JE X W (.Call (.Name x p) (e :: es) [] pos) (wCB c w) := by
  obtain ⟨_, pa, sa⟩ := ha
  exact ⟨_, pe_callTy hc hg hm hv pa hn hdb he hpl, sn_cb sc sa⟩
/-! subscripts -/
theorem je_ix {r : R2} {o : OD} (hr : IxR X r) (so : SnO X.K r o) (ha : JE X W a wa) (hb : JE X W b wb) (hs : PlainIx b := by intro _ _; rfl) : JE X W (.Subscript a b pos) (wOp o wa wb) := by
  obtain ⟨_, pa, sa⟩ := ha
  obtain ⟨_, pb, sb⟩ := hb
  exact ⟨_, pe_ix hr pa pb hs, sn_op so sa sb⟩
end
end DL
/-! DL3: statements, loops, comprehensions. -/
namespace DL
open PySem PySem.Spec L2
structure DE where
  nx : En → Mu → Prop
  rt : T → Mu → Prop
  bk : En → Mu → Prop := fun _ _ => False
  ct : En → Mu → Prop := fun _ _ => False
  ex : Addr → T → En → Mu → Prop := fun _ _ _ _ => False
abbrev WpS := DE → En → Mu → Prop
/-- the errors of an expression of this statement -/
abbrev DE.px (D : DE) (env : En) : KX := fun C t μ => D.ex C t env μ
structure Lnk (K : PySem.W.Frag) (W : WX) (s : S) (D : DE) (E : Ends) : Prop where
  nx : ∀ (s' : S) (μ : Mu) (env : En) (σ : St), Ext s s' → Rel K s' μ → EnR K s' env σ → D.nx env μ → E.nx σ s'.H
  rt : ∀ (s' : S) (μ : Mu) (v : V) (t : T), Ext s s' → Rel K s' μ → TR K s' t v → D.rt t μ → E.rt v s'.H
  bk : ∀ (s' : S) (μ : Mu) (env : En) (σ : St), Ext s s' → Rel K s' μ → EnR K s' env σ → D.bk env μ → E.bk σ s'.H
  ct : ∀ (s' : S) (μ : Mu) (env : En) (σ : St), Ext s s' → Rel K s' μ → EnR K s' env σ → D.ct env μ → E.ct σ s'.H
  ex : ∀ (s' : S) (μ : Mu) (env : En) (σ : St) (C d : Addr) (v : V) (t : T), Ext s s' → Rel K s' μ → EnR K s' env σ → XdAt s s' d v → TR K s' t v → D.ex C t env μ → W (.ref C) (some d) σ s'.H
theorem Lnk.up {K : PySem.W.Frag} {W : WX} {s s1 : S} {D : DE} {E : Ends} (l : Lnk K W s D E) (e : Ext s s1) : Lnk K W s1 D E :=
  ⟨fun s' μ env σ e' => l.nx s' μ env σ (e.trans e'), fun s' μ v t e' => l.rt s' μ v t (e.trans e'), fun s' μ env σ e' => l.bk s' μ env σ (e.trans e'), fun s' μ env σ e' => l.ct s' μ env σ (e.trans e'), fun s' μ env σ C d v t e' r en x => l.ex s' μ env σ C d v t (e.trans e') r en (x.back e e')⟩
theorem Lnk.thr {K : PySem.W.Frag} {W : WX} {s : S} {D : DE} {E : Ends} (l : Lnk K W s D E) {env : En} {σ : St} (en : EnR K s env σ) : Thr K W σ s (D.px env) :=
  fun s' C d v t μ e r h1 h2 h3 => l.ex s' μ env σ C d v t e r (en.up e) h1 h2 h3
def SnS (K : PySem.W.Frag) (W : WX) (ts : TS) (ws : WpS) : Prop :=
  ∀ (s : S) (μ : Mu) (env : En) (σ : St) (D : DE) (E : Ends), Rel K s μ → EnR K s env σ → ws D env μ → Lnk K W s D E → ts E σ s.H
structure JS (X : Cx) (W : WX) (st : Stmt) (w : WpS) : Prop where
  ex : ∃ ts, PS X st ts ∧ SnS X.K W ts w
structure JB (X : Cx) (W : WX) (st : List Stmt) (w : WpS) : Prop where
  ex : ∃ ts, PSs X st ts ∧ SnS X.K W ts w
/-! ### targets -/
abbrev WpG := T → En → Mu → (En → Mu → Prop) → Prop
abbrev WpGs := List T → En → Mu → (En → Mu → Prop) → Prop
def SnG (K : PySem.W.Frag) (g : TG) (w : WpG) : Prop := ∀ (s : S) (μ : Mu) (env : En) (σ : St) (t : T) (v : V) (P : En → Mu → Prop), Rel K s μ → EnR K s env σ → TR K s t v → w t env μ P →
  ∀ Q : St → Hp → Prop, (∀ s' env' σ' μ', Ext s s' → Rel K s' μ' → EnR K s' env' σ' → P env' μ' → Q σ' s'.H) → g v σ s.H Q
def SnGs (K : PySem.W.Frag) (g : TGs) (w : WpGs) : Prop := ∀ (s : S) (μ : Mu) (env : En) (σ : St) (ts : List T) (vs : List V) (P : En → Mu → Prop), Rel K s μ → EnR K s env σ → TRs K s ts vs → w ts env μ P →
  ∀ Q : St → Hp → Prop, (∀ s' env' σ' μ', Ext s s' → Rel K s' μ' → EnR K s' env' σ' → P env' μ' → Q σ' s'.H) → g vs σ s.H Q
structure JG (X : Cx) (e : Expr) (w : WpG) : Prop where
  ex : ∃ g, PG X e g ∧ SnG X.K g w
structure JGs (X : Cx) (es : List Expr) (w : WpGs) : Prop where
  ex : ∃ g, PGs X es g ∧ SnGs X.K g w
def wgName (i : Nat) : WpG := fun t env μ P => P (env.set i (some t)) μ
def wgNil : WpGs := fun ts env μ P => ts = [] ∧ P env μ
def wgCons (g : WpG) (gs : WpGs) : WpGs := fun ts env μ P => match ts with
  | t :: r => g t env μ fun env' μ' => gs r env' μ' P
  | [] => False
def wgTup (n : Nat) (gs : WpGs) : WpG := fun t env μ P => match rdT μ t with
  | some ts => ts.length = n ∧ gs ts env μ P
  | none => False
theorem sg_name {K : PySem.W.Frag} {i : Nat} : SnG K (gName i) (wgName i) := fun s μ env σ t v P r en h w Q q => q s _ _ μ (Ext.refl s) r (EnR.set h i en) w
theorem sg_nil {K : PySem.W.Frag} : SnGs K gNil wgNil := fun s μ env σ ts vs P r en h w Q q => by
  obtain ⟨e, w⟩ := w
  subst e
  cases h
  exact ⟨rfl, q s env σ μ (Ext.refl s) r en w⟩
theorem sg_cons {K : PySem.W.Frag} {g : TG} {gs : TGs} {w : WpG} {ws : WpGs} (h : SnG K g w) (h' : SnGs K gs ws) : SnGs K (gCons g gs) (wgCons w ws) := fun s μ env σ ts vs P r en ht hw Q q => by
  cases ht with
  | nil => exact hw.elim
  | cons r1 r2 =>
    refine ⟨_, _, rfl, h s μ env σ _ _ _ r en r1 hw _ fun s1 env1 σ1 μ1 e1 rl1 en1 h1 => ?_⟩
    exact h' s1 μ1 env1 σ1 _ _ P rl1 en1 (TRs.up e1 r2) h1 Q fun s2 env2 σ2 μ2 e2 rl2 en2 h2 => q s2 env2 σ2 μ2 (e1.trans e2) rl2 en2 h2
theorem sg_tup {K : PySem.W.Frag} {n : Nat} {gs : TGs} {ws : WpGs} (h : SnGs K gs ws) : SnG K (gTup K n gs) (wgTup n ws) := fun s μ env σ t v P r en ht hw Q q => by
  unfold wgTup at hw
  split at hw
  · rename_i ts e
    obtain ⟨a, xs, e1, e2, e3⟩ := rdT_ok r ht e
    exact ⟨a, xs, e1, e2, by rw [← e3.len]; exact hw.1, h s μ env σ ts xs P r en e3 hw.2 Q q⟩
  · exact hw.elim
section
variable {X : Cx} {W : WX} {e a b : Expr} {es : List Expr} {pos : Pos} {w wa wb : WpE} {st : Stmt} {sts : List Stmt} {ws wu : WpS} {wt : WpT}
theorem jg_name {i : Nat} {x : Str} (hN : X.N.Nodup) (hi : X.N[i]? = some x := by rfl) (hx : Loc X.env.scope x := by first | exact Or.inl rfl | exact Or.inr rfl) (hf : X.fn x = true ∨ X.env.scope.names.lookup x = some .local := by first | exact .inl rfl | exact .inr rfl | assumption) : JG X (.Name x pos) (wgName i) :=
  ⟨_, pg_name hN hi hx hf, sg_name⟩
theorem jg_nil : JGs X [] wgNil := ⟨_, pgs_nil, sg_nil⟩
theorem jg_cons {wg : WpG} {wgs : WpGs} (h1 : JG X e wg) (h2 : JGs X es wgs) (hs : (assignEach (e :: es) X.env).map (·.2) = assign e X.env :: (assignEach es X.env).map (·.2) := by rfl) : JGs X (e :: es) (wgCons wg wgs) := by
  obtain ⟨_, p1, s1⟩ := h1
  obtain ⟨_, p2, s2⟩ := h2
  exact ⟨_, pgs_cons p1 p2 hs, sg_cons s1 s2⟩
theorem jg_tup {n k : Nat} {wgs : WpGs} (hc : X.calm = true) (h : JGs X es wgs) (hn : (assignEach es X.env).length = n := by rfl) (hst : (assignEach es X.env).findIdx? (·.1) = none := by rfl) : JG X (.Tuple es k pos) (wgTup n wgs) := by
  obtain ⟨_, p, s⟩ := h
  exact ⟨_, pg_tup hc p hn hst, sg_tup s⟩
/-- o[i] = v by values -/
abbrev OS := T → T → T → Mu → (Mu → Prop) → Prop
def SnSet (K : PySem.W.Frag) (t : TSet) (o : OS) : Prop := ∀ (s : S) (μ : Mu) (x y z : T) (v u w : V) (P : Mu → Prop), Rel K s μ → TR K s x v → TR K s y u → TR K s z w → o x y z μ P →
  ∀ Q : Hp → Prop, (∀ s' μ', Ext s s' → Rel K s' μ' → P μ' → Q s'.H) → t v u w s.H Q
def wgSub (wo wi : WpE) (o : OS) : WpG := fun t env μ P => wo env μ (fun x μ1 => wi env μ1 (fun y μ2 => o x y t μ2 fun μ3 => P env μ3) fun _ _ _ => False) fun _ _ _ => False
theorem jg_sub {wo wi : WpE} {t : TSet} {os : OS} {W : WX} (ho : JE X W a wo) (hi : JE X W b wi) (hs : PSet X t) (sn : SnSet X.K t os)
    (ha : ∀ v, assign (.Subscript a b pos) X.env v = (do
      let ov ← holding [v] (eval a X.env)
      let iv ← holding [v, ov] (eval b X.env)
      standAt pos
      holding [v, ov, iv] (setItem ov iv v)
      release [v, ov, iv] []) := by intro _; rfl) : JG X (.Subscript a b pos) (wgSub wo wi os) := by
  obtain ⟨_, po, so⟩ := ho
  obtain ⟨_, pi, si⟩ := hi
  refine ⟨_, pg_sub po pi hs ha, fun s μ env σ z w P rl en hz hw Q q => ?_⟩
  refine so s μ env σ _ _ rl en hw (fun _ _ _ _ _ _ _ _ _ _ f => f.elim) _ fun s1 v x μ1 e1 r1 x1 h1 => ?_
  refine si s1 μ1 env σ _ _ r1 (en.up e1) h1 (fun _ _ _ _ _ _ _ _ _ _ f => f.elim) _ fun s2 u y μ2 e2 r2 y2 h2 => ?_
  exact sn s2 μ2 x y z v u w _ r2 (x1.up e2) y2 (hz.up (e1.trans e2)) h2 _ fun s3 μ3 e3 r3 h3 => q s3 env σ μ3 ((e1.trans e2).trans e3) r3 (en.up ((e1.trans e2).trans e3)) h3
/-! ### statements -/
def wNext : WpS := fun D env μ => D.nx env μ
def wSeq (t u : WpS) : WpS := fun D env μ => t { D with nx := u D } env μ
def wDrop (w : WpE) : WpS := fun D env μ => w env μ (fun _ μ' => D.nx env μ') (D.px env)
def wRet (w : WpE) : WpS := fun D env μ => w env μ (fun t μ' => D.rt t μ') (D.px env)
def wRetN : WpS := fun D _ μ => D.rt (.dat .none) μ
def wIfS (t : WpT) (a b : WpS) : WpS := fun D env μ => t env μ (fun c μ' => if c = true then a D env μ' else b D env μ') (D.px env)
def wAsg (w : WpE) (g : WpG) : WpS := fun D env μ => w env μ (fun t μ' => g t env μ' D.nx) (D.px env)
theorem jb_nil : JB X W [] wNext := ⟨_, pss_nil, fun s μ env σ D E r en h l => l.nx s μ env σ (Ext.refl s) r en h⟩
theorem jb_cons (h1 : JS X W st ws) (h2 : JB X W sts wu) : JB X W (st :: sts) (wSeq ws wu) := by
  obtain ⟨_, p1, s1⟩ := h1
  obtain ⟨tu, p2, s2⟩ := h2
  refine ⟨_, pss_cons p1 p2, fun s μ env σ D E r en h l => ?_⟩
  exact s1 s μ env σ { D with nx := wu D } _ r en h ⟨fun s' μ' env' σ' e' r' en' h' => s2 s' μ' env' σ' D E r' en' h' (l.up e'), l.rt, l.bk, l.ct, l.ex⟩
theorem jb_one (h1 : JS X W st ws) : JB X W [st] ws := by
  obtain ⟨_, p1, s1⟩ := h1
  exact ⟨_, pss_one p1, s1⟩
theorem js_expr (h : JE X W e w) (hs : swapsWith e none pos.line X.env = pure false := by rfl) : JS X W (.Expr e pos) (wDrop w) := by
  obtain ⟨_, p, sn⟩ := h
  refine ⟨_, ps_expr p hs, fun s μ env σ D E r en h l => ?_⟩
  exact sn s μ env σ _ _ r en h (l.thr en) _ fun s1 v t μ1 e1 r1 t1 h1 => l.nx s1 μ1 env σ e1 r1 (en.up e1) h1
theorem js_ret (h : JE X W e w) : JS X W (.Return (some e) pos) (wRet w) := by
  obtain ⟨_, p, sn⟩ := h
  refine ⟨_, ps_ret p, fun s μ env σ D E r en h l => ?_⟩
  exact sn s μ env σ _ _ r en h (l.thr en) _ fun s1 v t μ1 e1 r1 t1 h1 => l.rt s1 μ1 v t e1 r1 t1 h1
theorem js_if {c : Expr} {xs ys : List Stmt} (hc : JT X W c wt) (ha : JB X W xs ws) (hb : JB X W ys wu) : JS X W (.If c xs ys pos) (wIfS wt ws wu) := by
  obtain ⟨_, pc, sc⟩ := hc
  obtain ⟨_, pa, sa⟩ := ha
  obtain ⟨_, pb, sb⟩ := hb
  refine ⟨_, ps_if pc pa pb, fun s μ env σ D E r en h l => ?_⟩
  refine sc s μ env σ _ _ r en h (l.thr en) _ fun s1 c μ1 e1 r1 h1 => ?_
  cases c with
  | true => exact sa s1 μ1 env σ D E r1 (en.up e1) h1 (l.up e1)
  | false => exact sb s1 μ1 env σ D E r1 (en.up e1) h1 (l.up e1)
theorem js_asg {tg : Expr} {wg : WpG} (he : JE X W e w) (hg : JG X tg wg) (hs : swapsWithSole [tg] e pos.line X.env = pure false := by rfl) (hw : swappedStores [tg] e X.env = pure none := by rfl)
    (h1 : (assignEach [tg] X.env).map (·.2) = [assign tg X.env] := by rfl) : JS X W (.Assign [tg] e pos) (wAsg w wg) := by
  obtain ⟨_, p, sn⟩ := he
  obtain ⟨_, pg, sg⟩ := hg
  refine ⟨_, ps_asg p pg hs hw h1, fun s μ env σ D E r en h l => ?_⟩
  refine sn s μ env σ _ _ r en h (l.thr en) _ fun s1 v t μ1 e1 r1 t1 h1 => ?_
  exact sg s1 μ1 env σ t v _ r1 (en.up e1) t1 h1 _ fun s2 env2 σ2 μ2 e2 r2 en2 h2 => l.nx s2 μ2 env2 σ2 (e1.trans e2) r2 en2 h2
theorem js_set {i : Nat} {x : Str} {pos' : Pos} (hN : X.N.Nodup) (he : JE X W e w) (hi : X.N[i]? = some x := by rfl) (hx : Loc X.env.scope x := by first | exact Or.inl rfl | exact Or.inr rfl) (hs : swapsWith e (some (.Name x pos')) pos.line X.env = pure false := by rfl) (hf : X.fn x = true ∨ X.env.scope.names.lookup x = some .local := by first | exact .inl rfl | exact .inr rfl | assumption) :
    JS X W (.Assign [.Name x pos'] e pos) (wAsg w (wgName i)) := by
  obtain ⟨_, p, sn⟩ := he
  refine ⟨_, ps_set hN hi hx p hs hf, fun s μ env σ D E r en h l => ?_⟩
  refine sn s μ env σ _ _ r en h (l.thr en) _ fun s1 v t μ1 e1 r1 t1 h1 => ?_
  exact l.nx s1 μ1 _ _ e1 r1 (EnR.set t1 i (en.up e1)) h1
/-- a, b = x, y of two plain locals -/
def wPar (i j : Nat) (wa : WpA) : WpS := fun D env μ => wa env μ (fun ts μ' => match ts with
  | [t, u] => D.nx ((env.set i (some t)).set j (some u)) μ'
  | _ => False) (D.px env)
theorem js_par {i j : Nat} {x y : Str} {px py pt : Pos} {kt k2 pt2} {w : WpA} (hc : X.calm = true) (hN : X.N.Nodup) (hij : i ≠ j) (ha : JA X W [a, b] w) (hi : X.N[i]? = some x := by rfl) (hj : X.N[j]? = some y := by rfl)
    (hx : X.env.scope.names.lookup x = some .local := by rfl) (hy : X.env.scope.names.lookup y = some .local := by rfl)
    (hw : swappedStores [.Tuple [.Name x px, .Name y py] kt pt] (.Tuple [a, b] k2 pt2) X.env = pure (some [x, y]) := by rfl)
    (hs : swapsWithSole [.Tuple [.Name x px, .Name y py] kt pt] (.Tuple [a, b] k2 pt2) pos.line X.env = pure false := by rfl) : JS X W (.Assign [.Tuple [.Name x px, .Name y py] kt pt] (.Tuple [a, b] k2 pt2) pos) (wPar i j w) := by
  obtain ⟨_, p, sn⟩ := ha
  refine ⟨_, ps_par hc hN hi hj hij hx hy p hw hs, fun s μ env σ D E r en h l => ?_⟩
  refine sn s μ env σ _ _ r en h (l.thr en) _ fun s1 vs ts μ1 e1 r1 t1 h1 => ?_
  split at h1
  · rename_i t u
    cases t1 with
    | cons a1 t1 =>
      cases t1 with
      | cons a2 t1 =>
        cases t1
        exact ⟨_, _, rfl, l.nx s1 μ1 _ _ e1 r1 (EnR.set a2 j (EnR.set a1 i (en.up e1))) h1⟩
  · exact h1.elim
/-! ### while -/
def wWhile (wt : WpT) (wb : WpS) : WpS := fun D env μ => ∃ Inv : Nat → En → Mu → Prop, (∃ m, Inv m env μ) ∧ ∀ m env μ, Inv m env μ →
  wt env μ (fun b μ1 => if b = true then wb { D with nx := fun e u => ∃ m', m' < m ∧ Inv m' e u, ct := fun e u => ∃ m', m' < m ∧ Inv m' e u, bk := D.nx } env μ1 else D.nx env μ1) (D.px env)
theorem sn_while {K : PySem.W.Frag} {tc : TT} {tb : TS} {wt : WpT} {wb : WpS} (hc : SnT K W tc wt) (hb : SnS K W tb wb) : SnS K W (tWhile tc tb) (wWhile wt wb) := fun s μ env σ D E r en h l => by
  obtain ⟨Inv, ⟨m0, i0⟩, turn⟩ := h
  refine ⟨fun m σ' H' => ∃ (s' : S) (μ' : Mu) (env' : En), s'.H = H' ∧ Ext s s' ∧ Rel K s' μ' ∧ EnR K s' env' σ' ∧ Inv m env' μ', ⟨m0, s, μ, env, rfl, Ext.refl s, r, en, i0⟩, ?_⟩
  rintro m σ' H' ⟨s', μ', env', rfl, e', r', en', i'⟩
  refine hc s' μ' env' σ' _ _ r' en' (turn m env' μ' i') ((l.up e').thr en') _ fun s1 b μ1 e1 r1 h1 => ?_
  cases b with
  | true =>
    rw [if_pos rfl] at h1 ⊢
    refine ⟨fun σ2 H2 => ∃ m', m' < m ∧ ∃ (s2 : S) (μ2 : Mu) (env2 : En), s2.H = H2 ∧ Ext s s2 ∧ Rel K s2 μ2 ∧ EnR K s2 env2 σ2 ∧ Inv m' env2 μ2, fun σ2 H2 n => n, ?_⟩
    have l1 := l.up (e'.trans e1)
    have nx : ∀ (s2 : S) (μ2 : Mu) (env2 : En) (σ2 : St), Ext s1 s2 → Rel K s2 μ2 → EnR K s2 env2 σ2 → (∃ m', m' < m ∧ Inv m' env2 μ2) → ∃ m', m' < m ∧ ∃ (s3 : S) (μ2 : Mu) (env2 : En), s3.H = s2.H ∧ Ext s s3 ∧ Rel K s3 μ2 ∧ EnR K s3 env2 σ2 ∧ Inv m' env2 μ2 :=
      fun s2 μ2 env2 σ2 e2 r2 en2 ⟨m', lt, i2⟩ => ⟨m', lt, s2, μ2, env2, rfl, (e'.trans e1).trans e2, r2, en2, i2⟩
    exact hb s1 μ1 env' σ' _ _ r1 (en'.up e1) h1 ⟨nx, l1.rt, l1.nx, nx, l1.ex⟩
  | false =>
    rw [if_neg Bool.false_ne_true] at h1 ⊢
    exact l.nx s1 μ1 env' σ' (e'.trans e1) r1 (en'.up e1) h1
theorem js_while {c : Expr} {wb : WpS} (hp : PassesOwn (model X.prog X.w) X.A X.env X.xe) (hc : JT X W c wt) (hb : JB X W sts wb) : JS X W (.While c sts [] pos) (wWhile wt wb) := by
  obtain ⟨_, pc, sc⟩ := hc
  obtain ⟨_, pb, sb⟩ := hb
  exact ⟨_, ps_while hp pc pb, sn_while sc sb⟩
/-! ### what is walked -/
/-- n turns; ok must hold at each; itm: what the i-th yields -/
structure IT where
  n : Nat
  ok : Mu → Prop
  itm : Nat → Mu → KT → Prop
structure SnIt (K : PySem.W.Frag) (s0 : S) (J : It) (I : IT) : Prop where
  stop : ∀ (s : S) (μ : Mu), Ext s0 s → Rel K s μ → I.ok μ → J.stop I.n s.H
  go : ∀ (s : S) (μ : Mu) (i : Nat), Ext s0 s → Rel K s μ → I.ok μ → i < I.n → J.go i s.H
  yld : ∀ (s : S) (μ : Mu) (i : Nat) (P : KT), Ext s0 s → Rel K s μ → I.ok μ → i < I.n → I.itm i μ P → ∀ (x : V) (H' : Hp), J.yld i s.H x H' → ∃ (s' : S) (t : T) (μ' : Mu), s'.H = H' ∧ Ext s s' ∧ Rel K s' μ' ∧ TR K s' t x ∧ P t μ'
theorem SnIt.up {K : PySem.W.Frag} {s0 s1 : S} {J : It} {I : IT} (h : SnIt K s0 J I) (e : Ext s0 s1) : SnIt K s1 J I :=
  ⟨fun s μ e' => h.stop s μ (e.trans e'), fun s μ i e' => h.go s μ i (e.trans e'), fun s μ i P e' => h.yld s μ i P (e.trans e')⟩
abbrev WpI := En → Mu → (IT → Mu → Prop) → KX → Prop
def SnI (K : PySem.W.Frag) (W : WX) (wi : TI) (w : WpI) : Prop := ∀ (s : S) (μ : Mu) (env : En) (σ : St) (P : IT → Mu → Prop) (PX : KX), Rel K s μ → EnR K s env σ → w env μ P PX → Thr K W σ s PX →
  ∀ R : It → Hp → Prop, (∀ (s' : S) (J : It) (I : IT) (μ' : Mu), Ext s s' → Rel K s' μ' → SnIt K s' J I → P I μ' → R J s'.H) → wi σ s.H R
structure JI (X : Cx) (W : WX) (tg e : Expr) (w : WpI) : Prop where
  ex : ∃ wi, PI X tg e wi ∧ SnI X.K W wi w
def wFor (wi : WpI) (wg : WpG) (wb : WpS) : WpS := fun D env μ => wi env μ (fun I μ1 => ∃ Inv : Nat → En → Mu → Prop, Inv 0 env μ1 ∧ (∀ i env μ, i ≤ I.n → Inv i env μ → I.ok μ) ∧
  (∀ i env μ, i < I.n → Inv i env μ → I.itm i μ fun t μ2 => wg t env μ2 fun env3 μ3 => wb { D with nx := Inv (i + 1), ct := Inv (i + 1), bk := D.nx } env3 μ3) ∧ ∀ env μ, Inv I.n env μ → D.nx env μ) (D.px env)
theorem sn_for {K : PySem.W.Frag} {wi : TI} {g : TG} {tb : TS} {w : WpI} {wg : WpG} {wb : WpS} (hi : SnI K W wi w) (hg : SnG K g wg) (hb : SnS K W tb wb) : SnS K W (tFor wi g tb) (wFor w wg wb) := fun s μ env σ D E r en h l => by
  refine hi s μ env σ _ _ r en h (l.thr en) _ fun s1 J I μ1 e1 r1 it h1 => ?_
  obtain ⟨Inv, i0, ok, turn, fin⟩ := h1
  have l1 := l.up e1
  refine ⟨fun i m σ' H' => ∃ (s' : S) (μ' : Mu) (env' : En), s'.H = H' ∧ Ext s1 s' ∧ Rel K s' μ' ∧ EnR K s' env' σ' ∧ Inv i env' μ' ∧ i ≤ I.n ∧ m = I.n - i, ⟨I.n, s1, μ1, env, rfl, Ext.refl s1, r1, en.up e1, i0, Nat.zero_le _, rfl⟩, ?_⟩
  rintro i m σ' H' ⟨s', μ', env', rfl, e', r', en', i', le, rfl⟩
  have k := ok i env' μ' le i'
  by_cases lt : i < I.n
  · refine .inr ⟨it.go s' μ' i e' r' k lt, fun σ2 H2 => ∃ (s2 : S) (μ2 : Mu) (env2 : En), s2.H = H2 ∧ Ext s1 s2 ∧ Rel K s2 μ2 ∧ EnR K s2 env2 σ2 ∧ Inv (i + 1) env2 μ2, fun σ2 H2 ⟨s2, μ2, env2, a1, a2, a3, a4, a5⟩ => ⟨I.n - (i + 1), by omega, s2, μ2, env2, a1, a2, a3, a4, a5, lt, rfl⟩, fun x H2 y => ?_⟩
    obtain ⟨s2, t, μ2, rfl, e2, r2, t2, h2⟩ := it.yld s' μ' i _ e' r' k lt (turn i env' μ' lt i') x H2 y
    refine hg s2 μ2 env' σ' t x _ r2 (en'.up e2) t2 h2 _ fun s3 env3 σ3 μ3 e3 r3 en3 h3 => ?_
    have ee := (e'.trans e2).trans e3
    have l3 := l1.up ee
    have nx : ∀ (s4 : S) (μ4 : Mu) (env4 : En) (σ4 : St), Ext s3 s4 → Rel K s4 μ4 → EnR K s4 env4 σ4 → Inv (i + 1) env4 μ4 → ∃ (s2 : S) (μ2 : Mu) (env2 : En), s2.H = s4.H ∧ Ext s1 s2 ∧ Rel K s2 μ2 ∧ EnR K s2 env2 σ4 ∧ Inv (i + 1) env2 μ2 :=
      fun s4 μ4 env4 σ4 e4 r4 en4 i4 => ⟨s4, μ4, env4, rfl, ee.trans e4, r4, en4, i4⟩
    exact hb s3 μ3 env3 σ3 _ _ r3 en3 h3 ⟨nx, l3.rt, l3.nx, nx, l3.ex⟩
  · have ei : i = I.n := by omega
    subst ei
    exact .inl ⟨it.stop s' μ' e' r' k, l1.nx s' μ' env' σ' e' r' en' (fin env' μ' i')⟩
theorem js_for {tg iter : Expr} {wi : WpI} {wg : WpG} {wb : WpS} (hp : PassesOwn (model X.prog X.w) X.A X.env X.xe) (hc : X.calm = true) (hi : JI X W tg iter wi) (hg : JG X tg wg) (hb : JB X W sts wb)
    (hs : ∀ x, foldedSetIterable iter X.env x = pure x := by intro _; rfl) : JS X W (.For tg iter sts [] pos) (wFor wi wg wb) := by
  obtain ⟨_, pi, si⟩ := hi
  obtain ⟨_, pg, sg⟩ := hg
  obtain ⟨_, pb, sb⟩ := hb
  exact ⟨_, ps_for hp hc pi pg pb hs, sn_for si sg sb⟩
/-- the items of a list -/
def itL (t : T) (ts : List T) : IT := ⟨ts.length, fun μ => rdL μ t = some ts, fun i μ P => ∃ x, ts[i]? = some x ∧ P x μ⟩
def itT (t : T) (ts : List T) : IT := ⟨ts.length, fun μ => rdT μ t = some ts, fun i μ P => ∃ x, ts[i]? = some x ∧ P x μ⟩
def itR (lo : Int) (n : Nat) : IT := ⟨n, fun _ => True, fun i μ P => P (.dat (.int (lo + i))) μ⟩
def itS (z : Str) : IT := ⟨z.cps.size, fun _ => True, fun i μ P => ∃ c, z.cps[i]? = some c ∧ P (.dat (.str ⟨#[c]⟩)) μ⟩
def wiL (w : WpE) : WpI := fun env μ P PX => w env μ (fun t μ1 => match rdL μ1 t with
  | some ts => P (itL t ts) μ1
  | none => False) PX
def wiT (w : WpE) : WpI := fun env μ P PX => w env μ (fun t μ1 => match rdT μ1 t with
  | some ts => P (itT t ts) μ1
  | none => False) PX
def wiS (w : WpE) : WpI := fun env μ P PX => w env μ (fun t μ1 => match nm μ1 t with
  | .dat (.str z) => P (itS z) μ1
  | _ => False) PX
def wiR1 (w : WpA) : WpI := fun env μ P PX => w env μ (fun ts μ1 => match ts with
  | [t] => match nm μ1 t with
    | .dat (.int j) => -(2 ^ 62) ≤ j ∧ j < 2 ^ 62 ∧ P (itR 0 j.toNat) μ1
    | _ => False
  | _ => False) PX
def wiR2 (w : WpA) : WpI := fun env μ P PX => w env μ (fun ts μ1 => match ts with
  | [t, u] => match nm μ1 t, nm μ1 u with
    | .dat (.int i), .dat (.int j) => (-(2 ^ 62) ≤ i ∧ i < 2 ^ 62 ∧ -(2 ^ 62) ≤ j ∧ j < 2 ^ 62) ∧ P (itR i (j - i).toNat) μ1
    | _, _ => False
  | _ => False) PX
theorem snIt_range {K : PySem.W.Frag} {s0 : S} {lo : Int} {n : Nat} : SnIt K s0 (Itr lo n) (itR lo n) :=
  ⟨fun s μ e r k => Nat.le_refl _, fun s μ i e r k lt => lt, fun s μ i P e r k lt hp x H' y => by
    obtain ⟨rfl, rfl⟩ := y
    exact ⟨s, _, μ, rfl, Ext.refl s, r, mk_int _, hp⟩⟩
theorem snI_r1 {K : PySem.W.Frag} {ta : TA} {w : WpA} (h : SnA K W ta w) : SnI K W (iRng1 ta) (wiR1 w) := fun s μ env σ P PX r en hw th R q => by
  refine h s μ env σ _ PX r en hw th _ fun s1 vs ts μ1 e1 r1 t1 h1 => ?_
  split at h1
  · rename_i t
    cases t1 with
    | cons x1 t1 =>
      cases t1
      have t2 := nm_ok r1 x1
      split at h1
      · rename_i j ej
        rw [ej] at t2
        exact ⟨j, by rw [tr_int t2], h1.1, h1.2.1, q s1 _ _ μ1 e1 r1 snIt_range h1.2.2⟩
      · exact h1.elim
  · exact h1.elim
theorem snI_r2 {K : PySem.W.Frag} {ta : TA} {w : WpA} (h : SnA K W ta w) : SnI K W (iRng2 ta) (wiR2 w) := fun s μ env σ P PX r en hw th R q => by
  refine h s μ env σ _ PX r en hw th _ fun s1 vs ts μ1 e1 r1 t1 h1 => ?_
  split at h1
  · rename_i t u
    cases t1 with
    | cons x1 t1 =>
      cases t1 with
      | cons x2 t1 =>
        cases t1
        have t2 := nm_ok r1 x1
        have t3 := nm_ok r1 x2
        split at h1
        · rename_i i j ei ej
          rw [ei] at t2
          rw [ej] at t3
          exact ⟨i, j, by rw [tr_int t2, tr_int t3], h1.1, q s1 _ _ μ1 e1 r1 snIt_range h1.2⟩
        · exact h1.elim
  · exact h1.elim
theorem ji_r1 {tg : Expr} {w : WpA} {p : Pos} (hm : X.mg "range" = none) (h : JA X W [a] w) (hg : Gl X "range" := by rfl) (hs : starEach [a] X.env = [(false, eval a X.env)] := by rfl) : JI X W tg (.Call (.Name "range" p) [a] [] pos) (wiR1 w) := by
  obtain ⟨_, p, s⟩ := h
  exact ⟨_, pi_range1 hg hm p hs, snI_r1 s⟩
theorem ji_r2 {tg : Expr} {w : WpA} {p : Pos} (hm : X.mg "range" = none) (h : JA X W [a, b] w) (hg : Gl X "range" := by rfl) (hs : starEach [a, b] X.env = [(false, eval a X.env), (false, eval b X.env)] := by rfl) (hs2 : starEach [b] X.env = [(false, eval b X.env)] := by rfl) : JI X W tg (.Call (.Name "range" p) [a, b] [] pos) (wiR2 w) := by
  obtain ⟨_, p, s⟩ := h
  exact ⟨_, pi_range2 hg hm p hs hs2, snI_r2 s⟩
/-! ### comprehensions -/
/-- the strongest readings -/
def upE (K : PySem.W.Frag) (W : WX) (w : WpE) : TE := fun σ H Q => ∃ (s : S) (μ : Mu) (env : En) (P : KT) (PX : KX), s.H = H ∧ Rel K s μ ∧ EnR K s env σ ∧ w env μ P PX ∧ Thr K W σ s PX ∧ ∀ s' v t μ', Ext s s' → Rel K s' μ' → TR K s' t v → P t μ' → Q v s'.H
theorem JE.up (h : JE X W e w) : PE X e (upE X.K W w) := by
  obtain ⟨_, p, sn⟩ := h
  refine ⟨fun pins s σ H Q I h => p.run pins s σ H Q I ?_⟩
  obtain ⟨s, μ, env, P, PX, rfl, r, en, hw, th, q⟩ := h
  exact sn s μ env σ P PX r en hw th Q q
theorem sn_upE {K : PySem.W.Frag} : SnE K W (upE K W w) w := fun s μ env σ P PX r en hw th Q q => ⟨s, μ, env, P, PX, rfl, r, en, hw, th, q⟩
structure JTs (X : Cx) (W : WX) (es : List Expr) (w : WpT) : Prop where
  ex : ∃ t, PTs X es t ∧ SnT X.K W t w
def upT (K : PySem.W.Frag) (W : WX) (w : WpT) : TT := fun σ H Q => ∃ (s : S) (μ : Mu) (env : En) (P : KB) (PX : KX), s.H = H ∧ Rel K s μ ∧ EnR K s env σ ∧ w env μ P PX ∧ Thr K W σ s PX ∧ ∀ s' b μ', Ext s s' → Rel K s' μ' → P b μ' → Q b s'.H
theorem JTs.up (h : JTs X W es wt) : PTs X es (upT X.K W wt) := by
  obtain ⟨_, p, sn⟩ := h
  refine ⟨fun pins s σ H Q I h => p.run pins s σ H Q I ?_⟩
  obtain ⟨s, μ, env, P, PX, rfl, r, en, hw, th, q⟩ := h
  exact sn s μ env σ P PX r en hw th Q q
theorem sn_upT {K : PySem.W.Frag} : SnT K W (upT K W wt) wt := fun s μ env σ P PX r en hw th Q q => ⟨s, μ, env, P, PX, rfl, r, en, hw, th, q⟩
def wYes : WpT := fun _ μ P _ => P true μ
theorem jts_nil : JTs X W [] wYes := ⟨_, pts_nil, fun s μ env σ P PX r en hw th Q q => q s true μ (Ext.refl s) r hw⟩
theorem jts_one (h : JT X W e wt) : JTs X W [e] wt := by
  obtain ⟨_, p, s⟩ := h
  exact ⟨_, pts_one p, s⟩
def upG (K : PySem.W.Frag) (w : WpG) : TG := fun v σ H Q => ∃ (s : S) (μ : Mu) (env : En) (t : T) (P : En → Mu → Prop), s.H = H ∧ Rel K s μ ∧ EnR K s env σ ∧ TR K s t v ∧ w t env μ P ∧ ∀ s' env' σ' μ', Ext s s' → Rel K s' μ' → EnR K s' env' σ' → P env' μ' → Q σ' s'.H
theorem JG.up {wg : WpG} (h : JG X e wg) : PG X e (upG X.K wg) := by
  obtain ⟨_, p, sn⟩ := h
  refine ⟨fun pins s σ H v u Q I rv h => p.run pins s σ H v u Q I rv ?_⟩
  obtain ⟨s, μ, env, t, P, rfl, r, en, tv, hw, q⟩ := h
  exact sn s μ env σ t v P r en tv hw Q q
abbrev WF : WX := fun _ _ _ _ => False
abbrev NX : KX := fun _ _ _ => False
theorem thrF {K : PySem.W.Frag} {σ : St} {s : S} : Thr K WF σ s NX := fun _ _ _ _ _ _ _ _ _ _ f => f.elim
def wipeE (env : En) : List Nat → En
  | [] => env
  | v :: vs => (wipeE env vs).set v none
theorem wipe_en {K : PySem.W.Frag} {s : S} {env : En} {σ : St} (h : EnR K s env σ) : ∀ vs : List Nat, EnR K s (wipeE env vs) (wipe σ vs)
  | [] => h
  | v :: vs => EnR.del v (wipe_en h vs)
def wLc (wi : WpI) (wg : WpG) (wt : WpT) (we : WpE) (vs : List Nat) : WpE := fun env μ P PX => wi env μ (fun I μ1 => ∃ Inv : Nat → List T → Mu → Prop, Inv 0 [] μ1 ∧ (∀ i acc μ, i ≤ I.n → Inv i acc μ → I.ok μ) ∧
  (∀ i acc μ, i < I.n → Inv i acc μ → I.itm i μ fun t μ2 => wg t (wipeE env vs) μ2 fun env3 μ3 => wt env3 μ3 (fun b μ4 =>
    if b = true then we env3 μ4 (fun y μ5 => acc.length < sizeLine ∧ Inv (i + 1) (acc ++ [y]) μ5) NX else Inv (i + 1) acc μ4) NX) ∧ ∀ acc μ, Inv I.n acc μ → mkL acc μ P) PX
end
end DL
/-! DL4: comprehensions, attributes, calls. -/
namespace DL
open PySem PySem.Spec L2
/-! ### an object beside the places -/
structure Side (s : S) (p : Addr) (o : HO) : Prop where
  h : s.H p = some o
  g : s.G p = none
  n : p ∉ s.ι
  k : Nk o
section
variable {K : PySem.W.Frag} {s s' s1 : S} {μ : Mu} {p : Addr} {o o' : HO}
theorem Side.up (e : Ext s s') (x : Side s p o) : Side s' p o := by
  refine ⟨e.fr p o x.h x.n x.k.tb, ?_, fun m => ?_, x.k⟩
  · cases q : s'.G p with
    | none => rfl
    | some u =>
      rcases e.nw p (by rw [q]; simp) x.g with z | z | ⟨o1, z, k⟩
      · rw [x.h] at z; cases z
      · exact absurd z x.n
      · rw [x.h] at z; cases z; exact absurd x.k k
  · have := e.nl p m x.n
    rw [x.h] at this; cases this
theorem side_new (r : Rel K s μ) (hp : s.H p = none) (hk : Nk o) : Rel K ⟨s.ι, s.G, upd s.H p o⟩ μ ∧ Ext s ⟨s.ι, s.G, upd s.H p o⟩ ∧ Side ⟨s.ι, s.G, upd s.H p o⟩ p o := by
  have gp : s.G p = none := by
    cases q : s.G p with
    | none => rfl
    | some u => rw [r.sub p u q] at hp; cases hp
  have nm : p ∉ s.ι := fun m => r.thr p m hp
  refine ⟨⟨fun b u q => ?_, r.nd, r.len, fun n a u h1 h2 => ?_, fun a h => ?_, fun a u h q => ?_, r.tb.new hp⟩, ⟨⟨[], by simp⟩, Same.refl _, fun b u q _ _ => ?_, fun _ h h' => absurd h' h, fun b h m => absurd h m, fun b h => .inl (upd_noneB h)⟩, ⟨upd_same, gp, nm, hk⟩⟩
  · show upd s.H p o b = some u
    rw [upd_ne (ne_of_none (r.sub b u q) hp)]; exact r.sub b u q
  · have na : a ≠ p := fun e => nm (e ▸ List.mem_of_getElem? h1)
    exact OR.same (s := s) (Same.refl _) (fun m b q => q) (fun g => g) (fun u q => by show upd s.H p o a = some u; rw [upd_ne na]; exact q) (r.ob n a u h1 h2)
  · show upd s.H p o a ≠ none
    rw [upd_ne (show a ≠ p from fun e => nm (e ▸ h))]
    exact r.thr a h
  · have q : upd s.H p o a = some u := q
    rw [upd_ne (show a ≠ p from fun e => nm (e ▸ h))] at q
    exact r.nk a u h q
  · show upd s.H p o b = some u
    rw [upd_ne (ne_of_none q hp)]; exact q
theorem side_put (r : Rel K s μ) (x : Side s p o) (hk : Nk o') : Rel K ⟨s.ι, s.G, upd s.H p o'⟩ μ ∧ Side ⟨s.ι, s.G, upd s.H p o'⟩ p o' := by
  refine ⟨⟨fun b u q => ?_, r.nd, r.len, fun n a u h1 h2 => ?_, fun a h => ?_, fun a u h q => ?_, r.tb.upd fun u e => (by rw [x.h] at e; cases e; exact x.k)⟩, ⟨upd_same, x.g, x.n, hk⟩⟩
  · show upd s.H p o' b = some u
    rw [upd_ne (ne_of_none q x.g)]; exact r.sub b u q
  · have na : a ≠ p := fun e => x.n (e ▸ List.mem_of_getElem? h1)
    exact OR.same (s := s) (Same.refl _) (fun m b q => q) (fun g => g) (fun u q => by show upd s.H p o' a = some u; rw [upd_ne na]; exact q) (r.ob n a u h1 h2)
  · show upd s.H p o' a ≠ none
    rw [upd_ne (show a ≠ p from fun e => x.n (e ▸ h))]
    exact r.thr a h
  · have q : upd s.H p o' a = some u := q
    rw [upd_ne (show a ≠ p from fun e => x.n (e ▸ h))] at q
    exact r.nk a u h q
theorem side_ext (e : Ext s1 s) (h : s1.H p = none) : Ext s1 ⟨s.ι, s.G, upd s.H p o'⟩ :=
  ⟨e.io, e.g, fun a u q m nt => (by
    show upd s.H p o' a = some u
    rw [upd_ne (ne_of_none q h)]; exact e.fr a u q m nt), e.nw, e.nl, fun a h' => e.nb a (upd_noneB h')⟩
/-- the object becomes a place -/
theorem side_adopt {q : O} (r : Rel K s μ) (x : Side s p o) (hq : OR K ⟨s.ι ++ [p], s.G, s.H⟩ p q) : Rel K ⟨s.ι ++ [p], s.G, s.H⟩ (μ ++ [q]) := by
  refine ⟨r.sub, ?_, ?_, fun n a u h1 h2 => ?_, fun a h => ?_, fun a u h q => (List.mem_append.mp (show a ∈ s.ι ++ [p] from h)).elim (fun z => r.nk a u z q) fun z => by
    rw [List.mem_singleton.mp z] at q
    cases x.h.symm.trans q
    exact x.k, r.tb⟩
  · exact List.nodup_append.mpr ⟨r.nd, by simp, fun a ha b hb => by rw [List.mem_singleton] at hb; subst hb; intro e; subst e; exact x.n ha⟩
  · show (s.ι ++ [p]).length = (μ ++ [q]).length
    rw [List.length_append, List.length_append, r.len]
    rfl
  · have h1 : (s.ι ++ [p])[n]? = some a := h1
    by_cases hl : n < s.ι.length
    · rw [List.getElem?_append_left hl] at h1
      rw [List.getElem?_append_left (by rw [← r.len]; exact hl)] at h2
      refine OR.same (s := s) (Same.refl _) (fun m b q => ?_) (fun g => g) (fun u q => q) (r.ob n a u h1 h2)
      show (s.ι ++ [p])[m]? = some b
      rw [List.getElem?_append_left (List.getElem?_eq_some_iff.mp q).1]
      exact q
    · have hn' : n = s.ι.length := by
        have := (List.getElem?_eq_some_iff.mp h1).1
        rw [List.length_append, List.length_singleton] at this
        omega
      subst hn'
      have e1 : a = p := by simpa using h1.symm
      have e2 : u = q := by rw [r.len] at h2; simpa using h2.symm
      subst e1 e2
      exact hq
  · have h : a ∈ s.ι ++ [p] := h
    rcases List.mem_append.mp h with z | z
    · exact r.thr a z
    · rw [List.mem_singleton.mp z]
      show s.H p ≠ none
      rw [x.h]; simp
theorem adopt_ext (e : Ext s1 s) (h : s1.H p = none) : Ext s1 ⟨s.ι ++ [p], s.G, s.H⟩ := by
  refine ⟨?_, e.g, e.fr, e.nw, fun a m n => ?_, e.nb⟩
  · obtain ⟨l, q⟩ := e.io
    exact ⟨l ++ [p], by show s.ι ++ [p] = _; rw [q, List.append_assoc]⟩
  · have m : a ∈ s.ι ++ [p] := m
    rcases List.mem_append.mp m with z | z
    · exact e.nl a z n
    · rw [List.mem_singleton.mp z]; exact h
theorem adopt_up (s : S) (p : Addr) {t : T} {v : V} (h : TR K s t v) : TR K ⟨s.ι ++ [p], s.G, s.H⟩ t v := by
  cases t with
  | dat d => exact h
  | loc n =>
    obtain ⟨a, h1, h2⟩ := h
    refine ⟨a, ?_, h2⟩
    show (s.ι ++ [p])[n]? = some a
    rw [List.getElem?_append_left (List.getElem?_eq_some_iff.mp h1).1]
    exact h1
  | exc a d n =>
    refine ⟨h.1, ?_⟩
    show (s.ι ++ [p])[n]? = some d
    rw [List.getElem?_append_left (List.getElem?_eq_some_iff.mp h.2).1]
    exact h.2
  | fn f p => exact h
end
theorem wipe_get (σ : St) (i : Nat) : ∀ vs : List Nat, (wipe σ vs)[i]? = if i ∈ vs ∧ i < σ.length then some none else σ[i]?
  | [] => by simp [wipe]
  | v :: vs => by
    unfold wipe
    by_cases e : v = i
    · subst e
      by_cases l : v < σ.length
      · rw [List.getElem?_set_self (by rw [wipe_length]; exact l), if_pos ⟨List.mem_cons_self, l⟩]
      · rw [List.getElem?_eq_none (by rw [List.length_set, wipe_length]; omega), if_neg (fun h => l h.2), List.getElem?_eq_none (by omega)]
    · rw [List.getElem?_set_ne e, wipe_get σ i vs]
      have : (i ∈ v :: vs) ↔ i ∈ vs := by
        rw [List.mem_cons]
        exact ⟨fun h => h.elim (fun z => absurd z.symm e) id, .inr⟩
      simp only [this]
theorem wipe_set {σ : St} {vs : List Nat} {j : Nat} {x : Option V} (hj : j ∈ vs) (σ' : St) (h : wipe σ' vs = wipe σ vs) : wipe (σ'.set j x) vs = wipe σ vs := by
  have hl : σ'.length = σ.length := by
    have := congrArg List.length h
    rwa [wipe_length, wipe_length] at this
  apply List.ext_getElem?
  intro i
  have hi := congrArg (fun l => l[i]?) h
  simp only [wipe_get] at hi ⊢
  rw [List.length_set]
  by_cases c : i ∈ vs ∧ i < σ'.length
  · rw [if_pos c]
    rw [if_pos c] at hi
    exact hi
  · rw [if_neg c]
    rw [if_neg c] at hi
    rw [← hi]
    by_cases e : j = i
    · subst e
      have : ¬ j < σ'.length := fun l => c ⟨hj, l⟩
      rw [List.getElem?_eq_none (by rw [List.length_set]; omega), List.getElem?_eq_none (by omega)]
    · rw [List.getElem?_set_ne e]
theorem wipe_wipe (σ : St) (vs : List Nat) : wipe (wipe σ vs) vs = wipe σ vs := by
  apply List.ext_getElem?
  intro i
  rw [wipe_get, wipe_length]
  by_cases c : i ∈ vs ∧ i < σ.length
  · rw [if_pos c, wipe_get, if_pos c]
  · rw [if_neg c]
/-- a target that stores within the block's own names alone -/
def OwG (g : TG) (vs : List Nat) : Prop := ∀ (σ : St) (v : V) (σ' : St) (H : Hp) (Q : St → Hp → Prop), wipe σ' vs = wipe σ vs → g v σ' H Q → g v σ' H fun σ2 H2 => wipe σ2 vs = wipe σ vs ∧ Q σ2 H2
def OwGs (g : TGs) (vs : List Nat) : Prop := ∀ (σ : St) (xs : List V) (σ' : St) (H : Hp) (Q : St → Hp → Prop), wipe σ' vs = wipe σ vs → g xs σ' H Q → g xs σ' H fun σ2 H2 => wipe σ2 vs = wipe σ vs ∧ Q σ2 H2
theorem ow_name {j : Nat} {vs : List Nat} (h : j ∈ vs) : OwG (gName j) vs := fun σ v σ' H Q e q => ⟨wipe_set h σ' e, q⟩
theorem ow_nil {vs : List Nat} : OwGs gNil vs := fun σ xs σ' H Q e q => ⟨q.1, e, q.2⟩
def MonG (g : TG) : Prop := ∀ (v : V) (σ : St) (H : Hp) (Q Q' : St → Hp → Prop), (∀ σ H, Q σ H → Q' σ H) → g v σ H Q → g v σ H Q'
theorem mon_name {j : Nat} : MonG (gName j) := fun v σ H Q Q' h q => h _ _ q
theorem ow_cons {g : TG} {gs : TGs} {vs : List Nat} (mg : MonG g) (h : OwG g vs) (h' : OwGs gs vs) : OwGs (gCons g gs) vs := fun σ xs σ' H Q e q => by
  obtain ⟨v, r, rfl, q⟩ := q
  exact ⟨v, r, rfl, mg _ _ _ _ _ (fun σ2 H2 z => h' σ r σ2 H2 Q z.1 z.2) (h σ v σ' H _ e q)⟩
theorem ow_tup {K : PySem.W.Frag} {n : Nat} {gs : TGs} {vs : List Nat} (h : OwGs gs vs) : OwG (gTup K n gs) vs := fun σ v σ' H Q e q => by
  obtain ⟨a, xs, h1, h2, h3, q⟩ := q
  exact ⟨a, xs, h1, h2, h3, h σ xs σ' H Q e q⟩
theorem sn_lc {K : PySem.W.Frag} {W : WX} {wi : TI} {g : TG} {w : WpI} {wg : WpG} {wt : WpT} {we : WpE} {vs : List Nat} (hi : SnI K W wi w) (hg : SnG K g wg) (og : OwG g vs) :
    SnE K W (tLc wi g (upT K WF wt) (upE K WF we) vs) (wLc w wg wt we vs) := fun s μ env σ P PX r en h th Q q => by
  refine hi s μ env σ _ PX r en h th _ fun s1 J I μ1 e1 r1 it h1 => ?_
  intro D hD
  obtain ⟨Inv, i0, ok, turn, fin⟩ := h1
  obtain ⟨r0, e0, x0⟩ := side_new (o := .lst []) r1 hD nk_lst
  refine ⟨fun i m H' => ∃ (s' : S) (acc : List T) (xs : List V) (μ' : Mu), s'.H = H' ∧ Ext s1 s' ∧ Rel K s' μ' ∧ Side s' D (.lst xs) ∧ TRs K s' acc xs ∧ Inv i acc μ' ∧ i ≤ I.n ∧ m = I.n - i,
    ⟨I.n, _, [], [], μ1, rfl, e0, r0, x0, .nil, i0, Nat.zero_le _, rfl⟩, ?_⟩
  rintro i m H' ⟨s', acc, xs, μ', rfl, e', r', x', t', i', le, rfl⟩
  have k := ok i acc μ' le i'
  by_cases lt : i < I.n
  · refine .inr ⟨it.go s' μ' i e' r' k lt, fun H2 => ∃ (s2 : S) (acc : List T) (xs : List V) (μ2 : Mu), s2.H = H2 ∧ Ext s1 s2 ∧ Rel K s2 μ2 ∧ Side s2 D (.lst xs) ∧ TRs K s2 acc xs ∧ Inv (i + 1) acc μ2,
      fun H2 ⟨s2, ac, ys, μ2, a1, a2, a3, a4, a5, a6⟩ => ⟨I.n - (i + 1), by omega, s2, ac, ys, μ2, a1, a2, a3, a4, a5, a6, lt, rfl⟩, fun x H2 y => ?_⟩
    obtain ⟨s2, t, μ2, rfl, e2, r2, t2, h2⟩ := it.yld s' μ' i _ e' r' k lt (turn i acc μ' lt i') x H2 y
    refine og σ x _ _ _ (wipe_wipe σ vs) (hg s2 μ2 (wipeE env vs) (wipe σ vs) t x _ r2 (wipe_en ((en.up e1).up (e'.trans e2)) vs) t2 h2 _ fun s3 env3 σ3 μ3 e3 r3 en3 h3 => ?_)
    refine sn_upT s3 μ3 env3 σ3 _ NX r3 en3 h3 thrF _ fun s4 b μ4 e4 r4 h4 => ?_
    have ea : Ext s' s4 := (e2.trans e3).trans e4
    cases b with
    | true =>
      rw [if_pos rfl] at h4 ⊢
      refine sn_upE s4 μ4 env3 σ3 _ NX r4 (en3.up e4) h4 thrF _ fun s5 v y μ5 e5 r5 t5 h5 => ?_
      have eb := ea.trans e5
      have x5 := x'.up eb
      have a5 := t'.up eb
      refine ⟨xs, x5.h, by rw [← t'.len]; exact h5.1, ?_⟩
      obtain ⟨r6, x6⟩ := side_put (o' := .lst (xs ++ [v])) r5 x5 nk_lst
      have dn : s1.H D = none := hD
      refine ⟨_, acc ++ [y], xs ++ [v], μ5, rfl, side_ext (e'.trans eb) dn, r6, x6, ?_, h5.2⟩
      exact Paired.mapP (TRs.append a5 (.cons t5 .nil)) fun a b z => by
        cases a with
        | dat d => exact z
        | loc n => exact z
        | exc a d n => exact z
        | fn f p => exact z
    | false =>
      rw [if_neg Bool.false_ne_true] at h4 ⊢
      exact ⟨s4, acc, xs, μ4, rfl, e'.trans ea, r4, x'.up ea, t'.up ea, h4⟩
  · have ei : i = I.n := by omega
    subst ei
    refine .inl ⟨it.stop s' μ' e' r' k, ?_⟩
    have hq : OR K ⟨s'.ι ++ [D], s'.G, s'.H⟩ D (.lst acc) := ⟨x'.g, xs, x'.h, Paired.mapP t' fun _ _ z => adopt_up s' D z⟩
    have rr := side_adopt r' x' hq
    refine q ⟨s'.ι ++ [D], s'.G, s'.H⟩ (.ref D) (.loc μ'.length) _ (e1.trans (adopt_ext e' hD)) rr ⟨D, ?_, rfl⟩ (fin acc μ' i')
    show (s'.ι ++ [D])[μ'.length]? = some D
    rw [← r'.len]
    simp
section
variable {X : Cx} {W : WX} {elt tg iter : Expr} {ifs : List Expr} {scope : Scope} {own : List (Str × Nat)} {pos spos : Pos} {w : WpI} {g : TG} {wg : WpG} {wt : WpT} {we : WpE}
theorem je_lc (hc : X.calm = true) (hN : X.N.Nodup) (hi : JI X W tg iter w) (ok : BlkOk X.N X.env.scope scope own)
    (hg : ∀ (s : Shared) (H : Hp) (C : Addr) (cl : List (Str × Addr)) (fp : List Addr), PG (X.blk s H scope (compEnvC scope cl C X.env) fp) tg g) (sg : SnG X.K g wg) (og : OwG g (own.map (·.2)))
    (ht : ∀ (s : Shared) (H : Hp) (C : Addr) (cl : List (Str × Addr)) (fp : List Addr), JTs (X.blk s H scope (compEnvC scope cl C X.env) fp) WF ifs wt)
    (he : ∀ (s : Shared) (H : Hp) (C : Addr) (cl : List (Str × Addr)) (fp : List Addr), JE (X.blk s H scope (compEnvC scope cl C X.env) fp) WF elt we) (hs : ∀ x, foldedSetIterable iter X.env x = pure x := by intro _; rfl) :
    JE X W (.ListComp elt [⟨tg, iter, ifs, 0⟩] scope pos) (wLc w wg wt we (own.map (·.2))) := by
  obtain ⟨_, pi, si⟩ := hi
  exact ⟨_, pe_lc (tt := upT X.K WF wt) (te := upE X.K WF we) hc hN pi ok hg (fun s H C cl fp => (ht s H C cl fp).up) (fun s H C cl fp => (he s H C cl fp).up) hs, sn_lc si sg og⟩
theorem js_setLc {i : Nat} {y : Str} {py : Pos} (hc : X.calm = true) (hN : X.N.Nodup) (hi : JI X W tg iter w) (ok : BlkOk X.N X.env.scope scope own)
    (hg : ∀ (s : Shared) (H : Hp) (C : Addr) (cl : List (Str × Addr)) (fp : List Addr), PG (X.blk s H scope (compEnvC scope cl C X.env) fp) tg g) (sg : SnG X.K g wg) (og : OwG g (own.map (·.2)))
    (ht : ∀ (s : Shared) (H : Hp) (C : Addr) (cl : List (Str × Addr)) (fp : List Addr), JTs (X.blk s H scope (compEnvC scope cl C X.env) fp) WF ifs wt)
    (he : ∀ (s : Shared) (H : Hp) (C : Addr) (cl : List (Str × Addr)) (fp : List Addr), JE (X.blk s H scope (compEnvC scope cl C X.env) fp) WF elt we)
    (hsw : swapsWith (.ListComp elt [⟨tg, iter, ifs, 0⟩] scope pos) (some (.Name y py)) spos.line X.env = pure true) (hy : X.N[i]? = some y := by rfl) (hyl : X.env.scope.names.lookup y = some .local := by rfl)
    (hs : ∀ x, foldedSetIterable iter X.env x = pure x := by intro _; rfl) :
    JS X W (.Assign [.Name y py] (.ListComp elt [⟨tg, iter, ifs, 0⟩] scope pos) spos) (wAsg (wLc w wg wt we (own.map (·.2))) (wgName i)) := by
  obtain ⟨_, pi, si⟩ := hi
  refine ⟨_, ps_setLc (tt := upT X.K WF wt) (te := upE X.K WF we) hc hN hy hyl hsw pi ok hg (fun s H C cl fp => (ht s H C cl fp).up) (fun s H C cl fp => (he s H C cl fp).up) hs, fun s μ env σ D E r en h l => ?_⟩
  refine sn_lc si sg og s μ env σ _ _ r en h (l.thr en) _ fun s1 v t μ1 e1 r1 t1 h1 => ?_
  exact l.nx s1 μ1 _ _ e1 r1 (EnR.set t1 i (en.up e1)) h1
end
/-! ### attributes -/
/-- an instance's attributes -/
def rdI (μ : Mu) : T → Option (Addr × List (Str × T))
  | .loc n => match μ[n]? with
    | some (.ins C fs) => some (C, fs)
    | _ => none
  | _ => none
def wFld (C : Addr) (f : Str) (w : WpE) : WpE := fun env μ P PX => w env μ (fun t μ1 => match rdI μ1 t with
  | some (C', fs) => C' = C ∧ match fs.lookup f with
    | some x => P x μ1
    | none => False
  | none => False) PX
def wSetF (C : Addr) (f : Str) (wo wv : WpE) : WpS := fun D env μ => wv env μ (fun y μ1 => wo env μ1 (fun t μ2 => match t with
  | .loc n => (match μ2[n]? with
    | some (.ins C' fs) => C' = C ∧ fs.length < 1000 ∧ D.nx env (μ2.set n (.ins C (putT f y fs)))
    | _ => False)
  | _ => False) (D.px env)) (D.px env)
end DL
/-! DL5: calls of defs, over the hand layer, the guards told (repr wants them). -/
namespace DL
open PySem PySem.Spec L2
open PyProof.Rows (envOfC)
/-! ### a def's promise, where no guard is open -/
structure FnG (P : Program) (w : World) (K : PySem.W.Frag) (mg : Str → Option Value) (base : Heap) (k : Nat) (f : Addr) (fd : FuncData) (ps : List Str) (sp : Sp) : Prop where
  len : ∀ vs H Q E, sp vs H Q E → vs.length = ps.length
  run : ∀ (A : Around) (outer : List Env) (s : Shared) (H : Hp) (args : Args) (us : List Value) (vs : List V) (Q : VK) (E : XK), Room k A → A.guards = some [] → Env0 P w K mg base A outer s H → BindsTo s fd args (ps.zip us) → Vals vs us → sp vs H Q E →
    codeAny (model P w) A (.call (.ref f) args) (CR (L2.CX P w) outer P w H s Q E) s
theorem FnG.mono {P : Program} {w : World} {K : PySem.W.Frag} {mg : Str → Option Value} {base : Heap} {j k : Nat} {f : Addr} {fd : FuncData} {ps : List Str} {sp : Sp} (F : FnG P w K mg base j f fd ps sp) (h : j ≤ k) :
    FnG P w K mg base k f fd ps sp := ⟨F.len, fun A outer s H args us vs Q E hr => F.run A outer s H args us vs Q E (hr.mono h)⟩
theorem guards_deeper {A : Around} {env : Env} (h : A.guards = some []) : (A.deeper env).guards = some [] := by
  first | exact h | simp [Around.deeper, h]
section
variable {X : Cx} {k : Nat} {f C : Addr} {fd : FuncData} {ps : List Str} {sp : Sp} {E : St → XK} {x m : Str} {p pos apos : Pos} {e o : Expr} {es : List Expr} {ta : TE} {t : TA}
theorem run_fnG {pins : List (Addr × Obj)} {σ : St} {H : Hp} {s : Shared} {Q : VK} {us : List Value} {vs : List V} (F : FnG X.prog X.w X.K X.mg X.base k f fd ps sp) (hr : Room k X.A) (hg : X.A.guards = some []) (hb : Binds X.K fd ps []) (hx : PassesAt (L2.CX X.prog X.w) X σ (E σ))
    (I : Inv X pins σ H s) (r : Vals vs us) (h : sp vs H Q (E σ)) : wpAny (model X.prog X.w) X.A (call (.ref f) us) (EP X pins σ Q) X.xe s := by
  have hl : us.length = ps.length := by rw [← r.length]; exact F.len _ _ _ _ h
  have b := hb s us I.kIn (by rw [List.append_nil]; exact hl)
  rw [List.append_nil] at b
  refine wpAny_call (codeAny_mono (F.run X.A X.stack s H ⟨us, []⟩ us vs Q (E σ) hr hg I.env0 b r h) fun r s' hq => ?_)
  cases r with
  | error e => exact hx pins H s e s' I hq
  | ok fl =>
    cases fl with
    | ret u => exact I.after hq
    | next => exact False.elim hq
    | brk => exact False.elim hq
    | cont => exact False.elim hq
theorem pe_callG (F : FnG X.prog X.w X.K X.mg X.base k f fd ps sp) (hr : Room k X.A) (hgd : X.A.guards = some []) (hg : Gl X x) (hm : X.mg x = some (.ref f)) (hk : PySem.W.keepIn X.K (.ref f) = true) (hb : Binds X.K fd ps []) (hx : ∀ σ, PassesAt (L2.CX X.prog X.w) X σ (E σ))
    (ha : PA X (e :: es) t) (hdb : (x == ("__debug__" : Str)) = false := by decide) (he : starEach (e :: es) X.env = (false, eval e X.env) :: starEach es X.env := by rfl) (hpl : (backTo pos (starEach es X.env)).any (·.1) = false := by rfl) :
    PE X (.Call (.Name x p) (e :: es) [] pos) (tCallS sp E t) := by
  refine ⟨fun pins s σ H Q I h => ?_⟩
  refine wpAny_Call_Name_kw (ld_glob I hg hm ?_ hdb)
  refine PySem.W.callWith_K (h₀ := X.base) I.ok.mod.kin hk (thn (ha.run pos pins s σ H _ I h) fun us s1 ⟨vs, H1, I1, r, q⟩ => ⟨I1.kIn, ?_⟩) he hpl
  exact run_fnG F hr hgd hb (hx σ) I1 r q
end
/-- THE RULE of a def, by its body, the guards told -/
theorem fn_ofG {P : Program} {w : World} {K : PySem.W.Frag} {mg : Str → Option Value} {base : Heap} {k : Nat} {f : Addr} {name qual : Str} {params : Arguments} {body : List Stmt} {scope : Scope} {dV kV doc pm cdv ct oc : Value} {an od : Option Addr}
    {osl : Array (Option Value)} {N ps : List Str} {sp : Sp} (lk : K.lookup f = some ⟨oc, od, .func (PySem.W.fnOf name qual params body scope dV kV doc pm an cdv ct), osl⟩) (hcd : PySem.W.codeIn K cdv qual = true) (S : FnScope N ps scope)
    (len : ∀ vs H Q E, sp vs H Q E → vs.length = ps.length)
    (hbody : ∀ (A : Around) (outer : List Env) (s : Shared) (H : Hp) (vs : List V) (Q : VK) (E : XK), Room k (A.deeper (envOfC qual scope s.heap.objs.size f cdv)) → (A.deeper (envOfC qual scope s.heap.objs.size f cdv)).guards = some [] → sp vs H Q E →
      ∃ t, PSs (cxOf (L2.CX P w) P w K mg base N qual scope f cdv A outer s H E) body t ∧ t { nx := fun _ H' => Q .non H', rt := Q } (start N vs) H) :
    FnG P w K mg base (k + 1) f (PySem.W.fnOf name qual params body scope dV kV doc pm an cdv ct) ps sp := by
  refine ⟨len, fun A outer s H args us vs Q E hr hgd e0 hb r hsp => ?_⟩
  have hl := len _ _ _ _ hsp
  have KX : K.In s.heap := e0.mod.kin.keeps fun b o e => (e0.bs b o e).1
  have lim : s.heap.NoLimit := e0.mod.nolimit.keeps fun b o e => (e0.bs b o e).1
  have hkind : ∀ y ∈ ps.zip us, scope.names.lookup y.1 = some .local ∨ (scope.names.lookup y.1 = some .cell ∧ ((cellsFrom (s.heap.objs.size + 1) scope.names []).lookup y.1).isSome = true) := fun ⟨n, v⟩ hy => by
    rcases S.par n (List.of_mem_zip hy).1 with q | q
    · exact .inl q
    · exact .inr ⟨q, PySem.W.cellsFrom_some _ _ _ (.inl q)⟩
  refine codeAny_call_function hr.depth (KX _ _ lk) rfl S.co S.gen rfl (PySem.W.codeRec_of KX hcd) (hb _ _ _ _ ?_)
  refine wpAny_newFunctionEnv_cells S.kind hkind fun env he s1 x => ?_
  subst he
  refine ⟨lim.keeps x.toInCall.keep, codeAny_func ?_⟩
  obtain ⟨t, ht, hq⟩ := hbody A outer s H vs Q E (hr.deeper _) (guards_deeper hgd) hsp
  have I : Inv (cxOf (L2.CX P w) P w K mg base N qual scope f cdv A outer s H E) [] (start N vs) H s1 := inv_start S hr.hd e0 hl r x
  refine wpAny_mono (ht.run [] s1 (start N vs) H _ I hq) (fun fl s' hs => ?_) fun e s' hs => hs
  have fin : ∀ {σ' : St} {H' : Hp} {v : V} {u : Value}, Inv (cxOf (L2.CX P w) P w K mg base N qual scope f cdv A outer s H E) [] σ' H' s' → RelV v u → Q v H' → CE outer P w H s Q u s' :=
    fun {σ' H' v u} J rv q => ⟨v, H', J.os, J.bare, J.base, J.hok, rv, q⟩
  cases fl with
  | ret u =>
    obtain ⟨v, σ', H', J, rv, q⟩ := hs
    exact fin J rv q
  | next =>
    obtain ⟨σ', H', J, q⟩ := hs
    exact fin (v := V.non) (u := Value.none) J rfl q
  | brk =>
    obtain ⟨_, _, _, q⟩ := hs
    exact False.elim q
  | cont =>
    obtain ⟨_, _, _, q⟩ := hs
    exact False.elim q
end DL
/-! DL6: promises of defs over the data layer. -/
namespace DL
open PySem PySem.Spec L2
open PyProof.Rows (envOfC)
/-! ### renaming places -/
def T.ren (f : Nat → Nat) : T → T
  | .dat d => .dat d
  | .loc n => .loc (f n)
  | .exc a d n => .exc a d (f n)
  | .fn a p => .fn a p
def O.ren (f : Nat → Nat) : O → O
  | .lst ts => .lst (ts.map (T.ren f))
  | .tup ts => .tup (ts.map (T.ren f))
  | .ins C fs => .ins C (fs.map fun p => (p.1, p.2.ren f))
  | .dk kvs => .dk (kvs.map fun p => (p.1, p.2.ren f))
  | .dt kvs => .dt (kvs.map fun p => (p.1, p.2.ren f))
  | .lk kvs od ws => .lk (kvs.map fun p => (p.1, p.2.ren f)) od ws
  | .xd t => .xd (t.ren f)
  | .frz d => .frz d
  | .gone => .gone
theorem ren_dats (f : Nat → Nat) : ∀ ds : List PyData, (ds.map T.dat).map (T.ren f) = ds.map T.dat
  | [] => rfl
  | d :: ds => by
    rw [List.map_cons, List.map_cons, ren_dats f ds]
    rfl
section
variable {K : PySem.W.Frag} {s s0 : S} {f : Nat → Nat}
theorem tr_in (hg : Same s.G s0.G) (hi : ∀ (n : Nat) (a : Addr), s.ι[f n]? = some a → s0.ι[n]? = some a) {t : T} {v : V} (h : TR K s (t.ren f) v) : TR K s0 t v := by
  cases t with
  | dat d => exact dp_up hg h
  | loc n =>
    obtain ⟨a, h1, h2⟩ := h
    exact ⟨a, hi n a h1, h2⟩
  | exc a d n => exact ⟨h.1, hi n d h.2⟩
  | fn a p => exact ⟨h.1, fun G g => h.2 G (hg.trans g)⟩
theorem tr_out (hg : Same s0.G s.G) (hi : ∀ (n : Nat) (a : Addr), s0.ι[n]? = some a → s.ι[f n]? = some a) {t : T} {v : V} (h : TR K s0 t v) : TR K s (t.ren f) v := by
  cases t with
  | dat d => exact dp_up hg h
  | loc n =>
    obtain ⟨a, h1, h2⟩ := h
    exact ⟨a, hi n a h1, h2⟩
  | exc a d n => exact ⟨h.1, hi n d h.2⟩
  | fn a p => exact ⟨h.1, fun G g => h.2 G (hg.trans g)⟩
theorem paired_mapL {α β γ : Type} {R : α → β → Prop} {R' : γ → β → Prop} {g : γ → α} (h : ∀ c b, R (g c) b → R' c b) : ∀ {cs : List γ} {bs : List β}, Paired R (cs.map g) bs → Paired R' cs bs
  | [], _, q => by cases q; exact .nil
  | c :: cs, _, q => by
    cases q with
    | cons q1 q2 => exact .cons (h _ _ q1) (paired_mapL h q2)
theorem paired_mapR {α β γ : Type} {R : α → β → Prop} {R' : γ → β → Prop} {g : γ → α} (h : ∀ c b, R' c b → R (g c) b) : ∀ {cs : List γ} {bs : List β}, Paired R' cs bs → Paired R (cs.map g) bs
  | _, _, .nil => .nil
  | _, _, .cons q1 q2 => .cons (h _ _ q1) (paired_mapR h q2)
theorem trs_in (hg : Same s.G s0.G) (hi : ∀ (n : Nat) (a : Addr), s.ι[f n]? = some a → s0.ι[n]? = some a) {ts : List T} {vs : List V} (h : TRs K s (ts.map (T.ren f)) vs) : TRs K s0 ts vs := paired_mapL (R := TR K s) (R' := TR K s0) (fun _ _ z => tr_in hg hi z) h
theorem or_in (hg : Same s.G s0.G) (hi : ∀ (n : Nat) (a : Addr), s.ι[f n]? = some a → s0.ι[n]? = some a) {a : Addr} {o : O} (h1 : s.G a = none → s0.G a = none) (h2 : ∀ u, s.H a = some u → s0.H a = some u) (h : OR K s a (o.ren f)) : OR K s0 a o := by
  cases o with
  | lst ts => obtain ⟨g, xs, e, r⟩ := h; exact ⟨h1 g, xs, h2 _ e, trs_in hg hi r⟩
  | tup ts => obtain ⟨g, xs, e, r⟩ := h; exact ⟨h1 g, xs, h2 _ e, trs_in hg hi r⟩
  | ins C fs => obtain ⟨g, dx, vs, e, r⟩ := h; exact ⟨h1 g, dx, vs, h2 _ e, paired_mapL (fun _ _ z => ⟨z.1, tr_in hg hi z.2⟩) r⟩
  | dk kvs => obtain ⟨g, ws, e, r⟩ := h; exact ⟨h1 g, ws, h2 _ e, paired_mapL (fun _ _ z => ⟨z.1, tr_in hg hi z.2⟩) r⟩
  | dt kvs => obtain ⟨g, ws, e, r⟩ := h; exact ⟨h1 g, ws, h2 _ e, paired_mapL (fun _ _ z => ⟨z.1, tr_in hg hi z.2⟩) r⟩
  | lk kvs od ws => obtain ⟨g, e, r⟩ := h; exact ⟨h1 g, h2 _ e, paired_mapL (fun _ _ z => ⟨z.1, tr_in hg hi z.2⟩) r⟩
  | xd t => obtain ⟨g, v, e, r⟩ := h; exact ⟨h1 g, v, h2 _ e, tr_in hg hi r⟩
  | frz d => exact dp_up hg h
  | gone => trivial
theorem or_out (hg : Same s0.G s.G) (hi : ∀ (n : Nat) (a : Addr), s0.ι[n]? = some a → s.ι[f n]? = some a) {a : Addr} {o : O} (h1 : s0.G a = none → s.G a = none) (h2 : ∀ u, s0.H a = some u → s.H a = some u) (h : OR K s0 a o) : OR K s a (o.ren f) := by
  cases o with
  | lst ts => obtain ⟨g, xs, e, r⟩ := h; exact ⟨h1 g, xs, h2 _ e, paired_mapR (fun _ _ z => tr_out hg hi z) r⟩
  | tup ts => obtain ⟨g, xs, e, r⟩ := h; exact ⟨h1 g, xs, h2 _ e, paired_mapR (fun _ _ z => tr_out hg hi z) r⟩
  | ins C fs => obtain ⟨g, dx, vs, e, r⟩ := h; exact ⟨h1 g, dx, vs, h2 _ e, paired_mapR (fun _ _ z => ⟨z.1, tr_out hg hi z.2⟩) r⟩
  | dk kvs => obtain ⟨g, ws, e, r⟩ := h; exact ⟨h1 g, ws, h2 _ e, paired_mapR (fun _ _ z => ⟨z.1, tr_out hg hi z.2⟩) r⟩
  | dt kvs => obtain ⟨g, ws, e, r⟩ := h; exact ⟨h1 g, ws, h2 _ e, paired_mapR (fun _ _ z => ⟨z.1, tr_out hg hi z.2⟩) r⟩
  | lk kvs od ws => obtain ⟨g, e, r⟩ := h; exact ⟨h1 g, h2 _ e, paired_mapR (fun _ _ z => ⟨z.1, tr_out hg hi z.2⟩) r⟩
  | xd t => obtain ⟨g, v, e, r⟩ := h; exact ⟨h1 g, v, h2 _ e, tr_out hg hi r⟩
  | frz d => exact dp_up hg h
  | gone => trivial
end
/-- a view: the places V of a store, by their turn -/
def fV (V : List Nat) (μ : Mu) (k : Nat) : Nat := V.getD k μ.length
def gV (V : List Nat) (μ : Mu) (k : Nat) : Nat := V.getD k (μ.length + (k - V.length))
def adr (s : S) (V : List Nat) : List Addr := V.map fun i => (s.ι[i]?).getD 0
/-- μ0 is what μ shows at V -/
structure View (V : List Nat) (μ μ0 : Mu) : Prop where
  nd : V.Nodup
  lt : ∀ i, i ∈ V → i < μ.length
  eq : V.map (fun i => μ[i]?) = μ0.map (fun o => some (o.ren (fV V μ)))
section
variable {K : PySem.W.Frag} {s : S} {μ μ0 : Mu} {V : List Nat}
theorem getD_of {V : List Nat} {k i d : Nat} (h : V[k]? = some i) : V.getD k d = i := by rw [List.getD_eq_getElem?_getD, h]; rfl
theorem getD_none {V : List Nat} {k d : Nat} (h : V[k]? = none) : V.getD k d = d := by rw [List.getD_eq_getElem?_getD, h]; rfl
theorem adr_get (r : Rel K s μ) (lt : ∀ i, i ∈ V → i < μ.length) {k i : Nat} (h : V[k]? = some i) : ∃ a, s.ι[i]? = some a ∧ (adr s V)[k]? = some a := by
  have l := lt i (List.mem_of_getElem? h)
  rw [← r.len] at l
  refine ⟨s.ι[i], by simp [l], ?_⟩
  unfold adr
  rw [List.getElem?_map, h]
  simp [l]
theorem adr_back (r : Rel K s μ) (lt : ∀ i, i ∈ V → i < μ.length) {k : Nat} {a : Addr} (h : (adr s V)[k]? = some a) : ∃ i, V[k]? = some i ∧ s.ι[i]? = some a := by
  cases q : V[k]? with
  | none =>
    unfold adr at h
    rw [List.getElem?_map, q] at h
    cases h
  | some i =>
    obtain ⟨b, h1, h2⟩ := adr_get r lt q
    rw [h] at h2
    cases h2
    exact ⟨i, rfl, h1⟩
theorem view_in (r : Rel K s μ) (lt : ∀ i, i ∈ V → i < μ.length) (n : Nat) (a : Addr) (h : s.ι[fV V μ n]? = some a) : (adr s V)[n]? = some a := by
  unfold fV at h
  cases q : V[n]? with
  | none =>
    rw [getD_none q, List.getElem?_eq_none (by rw [r.len]; exact Nat.le_refl _)] at h
    cases h
  | some i =>
    rw [getD_of q] at h
    obtain ⟨b, h1, h2⟩ := adr_get r lt q
    rw [h] at h1
    cases h1
    exact h2
theorem adr_mem (r : Rel K s μ) (lt : ∀ i, i ∈ V → i < μ.length) {a : Addr} (h : a ∈ adr s V) : a ∈ s.ι := by
  obtain ⟨k, hk⟩ := List.mem_iff_getElem?.mp h
  obtain ⟨i, _, h2⟩ := adr_back r lt hk
  exact List.mem_of_getElem? h2
theorem nodup_ix {l : List Nat} (h : l.Nodup) {n m a : Nat} (h1 : l[n]? = some a) (h2 : l[m]? = some a) : n = m :=
  (List.getElem?_inj (List.getElem?_eq_some_iff.mp h1).1 h).mp (h1.trans h2.symm)
theorem nodup_of_ix {l : List Addr} (h : ∀ (n m : Nat) (a : Addr), l[n]? = some a → l[m]? = some a → n = m) : l.Nodup := by
  rw [List.nodup_iff_pairwise_ne, List.pairwise_iff_getElem]
  intro i j hi hj hlt e
  have := h i j l[i] (by simp [hi]) (by simp [hj, e])
  omega
theorem Rel.view (r : Rel K s μ) (w : View V μ μ0) : Rel K ⟨adr s V, s.G, s.H⟩ μ0 := by
  have ll : V.length = μ0.length := by
    have := congrArg List.length w.eq
    simpa using this
  refine ⟨r.sub, nodup_of_ix fun n m a h1 h2 => ?_, ?_, fun n a o h1 h2 => ?_, fun a h => r.thr a (adr_mem r w.lt h), fun a o h q => r.nk a o (adr_mem r w.lt h) q, r.tb⟩
  · obtain ⟨i, q1, p1⟩ := adr_back r w.lt h1
    obtain ⟨j, q2, p2⟩ := adr_back r w.lt h2
    have e : i = j := nd_ix r.nd p1 p2
    subst e
    exact nodup_ix w.nd q1 q2
  · show (adr s V).length = μ0.length
    unfold adr
    rw [List.length_map, ll]
  · obtain ⟨i, q1, p1⟩ := adr_back r w.lt h1
    have e := congrArg (fun l => l[n]?) w.eq
    simp only [List.getElem?_map, q1, h2, Option.map_some] at e
    have e2 : μ[i]? = some (o.ren (fV V μ)) := Option.some.inj e
    exact or_in (s := s) (s0 := ⟨adr s V, s.G, s.H⟩) (Same.refl _) (fun m b z => view_in r w.lt m b z) (fun g => g) (fun u z => z) (r.ob i a _ p1 e2)
/-- the store behind a call -/
def setAll : Mu → List Nat → List O → Mu
  | μ, [], os => μ ++ os
  | μ, _ :: _, [] => μ
  | μ, i :: V, o :: os => setAll (μ.set i o) V os
theorem setAll_len : ∀ (V : List Nat) (μ : Mu) (os : List O), V.length ≤ os.length → (setAll μ V os).length = μ.length + (os.length - V.length)
  | [], μ, os, _ => by simp [setAll]
  | i :: V, μ, [], h => by simp at h
  | i :: V, μ, o :: os, h => by
    have h' : V.length ≤ os.length := by simpa using h
    rw [setAll, setAll_len V _ os h', List.length_set]
    simp
theorem setAll_out : ∀ (V : List Nat) (μ : Mu) (os : List O) (n : Nat), n ∉ V → n < μ.length → (setAll μ V os)[n]? = μ[n]?
  | [], μ, os, n, _, h => by rw [setAll, List.getElem?_append_left h]
  | i :: V, μ, [], n, _, h => by rw [setAll]
  | i :: V, μ, o :: os, n, m, h => by
    rw [List.mem_cons, not_or] at m
    rw [setAll, setAll_out V _ os n m.2 (by rw [List.length_set]; exact h), List.getElem?_set_ne (Ne.symm m.1)]
theorem setAll_in : ∀ (V : List Nat) (μ : Mu) (os : List O) (k i : Nat), V.Nodup → V.length ≤ os.length → (∀ j, j ∈ V → j < μ.length) → V[k]? = some i → (setAll μ V os)[i]? = os[k]?
  | [], _, _, k, i, _, _, _, h => by simp at h
  | j :: V, μ, [], k, i, _, h, _, _ => by simp at h
  | j :: V, μ, o :: os, k, i, nd, h, lt, e => by
    obtain ⟨n1, n2⟩ := List.nodup_cons.mp nd
    have h' : V.length ≤ os.length := by simpa using h
    have lt' : ∀ x, x ∈ V → x < (μ.set j o).length := fun x hx => by rw [List.length_set]; exact lt x (List.mem_cons_of_mem _ hx)
    rw [setAll]
    cases k with
    | zero =>
      have e' : j = i := by simpa using e
      subst e'
      rw [setAll_out V _ os j n1 (by rw [List.length_set]; exact lt j List.mem_cons_self), List.getElem?_set_self (lt j List.mem_cons_self)]
      rfl
    | succ k =>
      rw [setAll_in V _ os k i n2 h' lt' (by simpa using e)]
      simp
theorem setAll_new : ∀ (V : List Nat) (μ : Mu) (os : List O) (j : Nat), V.length ≤ os.length → (setAll μ V os)[μ.length + j]? = os[V.length + j]?
  | [], μ, os, j, _ => by rw [setAll, List.getElem?_append_right (by omega)]; simp
  | i :: V, μ, [], j, h => by simp at h
  | i :: V, μ, o :: os, j, h => by
    have h' : V.length ≤ os.length := by simpa using h
    have := setAll_new V (μ.set i o) os j h'
    rw [List.length_set] at this
    rw [setAll, this]
    have e : (i :: V).length + j = (V.length + j) + 1 := by rw [List.length_cons]; omega
    rw [e, List.getElem?_cons_succ]
/-- behind a call: the caller's state -/
structure Back (K : PySem.W.Frag) (s : S) (μ : Mu) (V : List Nat) (s' : S) (μ' : Mu) (t : S) : Prop where
  rel : Rel K t (setAll μ V (μ'.map (O.ren (gV V μ))))
  ext : Ext s t
  h : t.H = s'.H
  g : t.G = s'.G
  i : ∃ l, s'.ι = adr s V ++ l ∧ t.ι = s.ι ++ l
  tr : ∀ x v, TR K s' x v → TR K t (x.ren (gV V μ)) v
theorem call_back (r : Rel K s μ) (w : View V μ μ0) {s' : S} {μ' : Mu} (e : Ext ⟨adr s V, s.G, s.H⟩ s') (r' : Rel K s' μ') : ∃ t, Back K s μ V s' μ' t := by
  obtain ⟨l, hl⟩ := e.io
  have hl : s'.ι = adr s V ++ l := hl
  have la : (adr s V).length = V.length := by unfold adr; rw [List.length_map]
  have lm : V.length + l.length = μ'.length := by rw [← r'.len, hl, List.length_append, la]
  have notin : ∀ a, a ∈ l → a ∉ s.ι := fun a ha m => by
    have n1 : a ∉ adr s V := fun z => by
      have nd := r'.nd
      rw [hl] at nd
      exact (List.nodup_append.mp nd).2.2 a z a ha rfl
    have := e.nl a (by rw [hl]; exact List.mem_append_right _ ha) n1
    exact r.thr a m this
  have hi : ∀ (n : Nat) (a : Addr), s'.ι[n]? = some a → (s.ι ++ l)[gV V μ n]? = some a := fun n a h => by
    rw [hl] at h
    unfold gV
    by_cases c : n < V.length
    · rw [List.getElem?_append_left (by rw [la]; exact c)] at h
      obtain ⟨i, q1, q2⟩ := adr_back r w.lt h
      rw [getD_of q1, List.getElem?_append_left (List.getElem?_eq_some_iff.mp q2).1]
      exact q2
    · rw [List.getElem?_append_right (by rw [la]; omega), la] at h
      rw [getD_none (List.getElem?_eq_none (by omega)), List.getElem?_append_right (by rw [r.len]; omega), r.len]
      rw [show μ.length + (n - V.length) - μ.length = n - V.length by omega]
      exact h
  have wl : V.length ≤ (μ'.map (O.ren (gV V μ))).length := by rw [List.length_map]; omega
  have callnk : ∀ (a : Addr) (o : HO), a ∈ s.ι ++ l → s'.H a = some o → Nk o := fun a o h q => by
    rcases List.mem_append.mp h with z | z
    · by_cases m : a ∈ adr s V
      · exact r'.nk a o (by rw [hl]; exact List.mem_append_left _ m) q
      · cases w : s.H a with
        | none => exact absurd w (r.thr a z)
        | some u =>
          have := e.fr a u w m (r.nk a u z w).tb
          rw [q] at this
          cases this
          exact r.nk a o z w
    · exact r'.nk a o (by rw [hl]; exact List.mem_append_right _ z) q
  refine ⟨⟨s.ι ++ l, s'.G, s'.H⟩, ⟨r'.sub, ?_, ?_, fun n a o h1 h2 => ?_, fun a h => ?_, fun a o h q => callnk a o h q, r'.tb⟩, ⟨⟨l, rfl⟩, e.g, fun a o h m nt => e.fr a o h (fun z => m (adr_mem r w.lt z)) nt, fun a h h' => (e.nw a h h').imp id fun z => z.imp (fun z => adr_mem r w.lt z) id, fun a h m => ?_, fun a h => (e.nb a h).imp id fun z => adr_mem r w.lt z⟩, rfl, rfl, ⟨l, hl, rfl⟩, fun x v h => tr_out (s0 := s') (s := ⟨s.ι ++ l, s'.G, s'.H⟩) (Same.refl _) hi h⟩
  · refine List.nodup_append.mpr ⟨r.nd, ?_, fun a ha b hb z => notin b hb (z ▸ ha)⟩
    have nd := r'.nd
    rw [hl] at nd
    exact (List.nodup_append.mp nd).2.1
  · show (s.ι ++ l).length = _
    rw [setAll_len V μ _ wl, List.length_append, List.length_map, r.len]
    omega
  · have h1 : (s.ι ++ l)[n]? = some a := h1
    by_cases c : n < s.ι.length
    · rw [List.getElem?_append_left c] at h1
      by_cases m : n ∈ V
      · obtain ⟨k, hk⟩ := List.mem_iff_getElem?.mp m
        rw [setAll_in V μ _ k n w.nd wl w.lt hk, List.getElem?_map] at h2
        cases q : μ'[k]? with
        | none => rw [q] at h2; cases h2
        | some o' =>
          rw [q] at h2
          cases h2
          obtain ⟨b, p1, p2⟩ := adr_get r w.lt hk
          rw [h1] at p1
          cases p1
          have p3 : s'.ι[k]? = some a := by rw [hl, List.getElem?_append_left (List.getElem?_eq_some_iff.mp p2).1]; exact p2
          exact or_out (s0 := s') (s := ⟨s.ι ++ l, s'.G, s'.H⟩) (Same.refl _) hi (fun g => g) (fun u z => z) (r'.ob k a o' p3 q)
      · rw [setAll_out V μ _ n m (by rw [← r.len]; exact c)] at h2
        have na : a ∉ adr s V := fun z => by
          obtain ⟨k, hk⟩ := List.mem_iff_getElem?.mp z
          obtain ⟨i, q1, q2⟩ := adr_back r w.lt hk
          have : n = i := nd_ix r.nd h1 q2
          subst this
          exact m (List.mem_of_getElem? q1)
        refine OR.same (s := s) e.g (fun j b z => ?_) (fun g => ?_) (fun u z => e.fr a u z na (r.nk a u (List.mem_of_getElem? h1) z).tb) (r.ob n a o h1 h2)
        · show (s.ι ++ l)[j]? = some b
          rw [List.getElem?_append_left (List.getElem?_eq_some_iff.mp z).1]
          exact z
        · show s'.G a = none
          cases q : s'.G a with
          | none => rfl
          | some u =>
            rcases e.nw a (by rw [q]; simp) g with z | z | ⟨o1, z, k⟩
            · exact absurd z (r.thr a (List.mem_of_getElem? h1))
            · exact absurd z na
            · exact absurd (r.nk a _ (List.mem_of_getElem? h1) z) k
    · obtain ⟨j, rfl⟩ : ∃ j, n = s.ι.length + j := ⟨n - s.ι.length, by omega⟩
      rw [List.getElem?_append_right (by omega), show s.ι.length + j - s.ι.length = j by omega] at h1
      rw [r.len, setAll_new V μ _ j wl, List.getElem?_map] at h2
      cases q : μ'[V.length + j]? with
      | none => rw [q] at h2; cases h2
      | some o' =>
        rw [q] at h2
        cases h2
        have p3 : s'.ι[V.length + j]? = some a := by
          rw [hl, List.getElem?_append_right (by omega), la, show V.length + j - V.length = j by omega]
          exact h1
        exact or_out (s0 := s') (s := ⟨s.ι ++ l, s'.G, s'.H⟩) (Same.refl _) hi (fun g => g) (fun u z => z) (r'.ob _ a o' p3 q)
  · have h : a ∈ s.ι ++ l := h
    rcases List.mem_append.mp h with z | z
    · by_cases na : a ∈ adr s V
      · exact r'.thr a (by rw [hl]; exact List.mem_append_left _ na)
      · obtain ⟨u, hu⟩ := not_none (r.thr a z)
        show s'.H a ≠ none
        rw [e.fr a u hu na (r.nk a u z hu).tb]
        simp
    · exact r'.thr a (by rw [hl]; exact List.mem_append_right _ z)
  · have h : a ∈ s.ι ++ l := h
    rcases List.mem_append.mp h with z | z
    · exact absurd z m
    · refine e.nl a (by rw [hl]; exact List.mem_append_right _ z) fun z2 => ?_
      exact m (adr_mem r w.lt z2)
end
theorem Back.xd {K : PySem.W.Frag} {s : S} {μ : Mu} {V : List Nat} {s' t : S} {μ' : Mu} {d : Addr} {v : L2.V} (b : Back K s μ V s' μ' t) (r : Rel K s μ) (x : XdAt ⟨adr s V, s.G, s.H⟩ s' d v) : XdAt s t d v := by
  refine ⟨by rw [b.h]; exact x.h, x.o, by rw [b.g]; exact x.g, fun m => ?_⟩
  obtain ⟨l, e1, e2⟩ := b.i
  rw [e2] at m
  rcases List.mem_append.mp m with z | z
  · exact r.thr d z x.o
  · exact x.n (by rw [e1]; exact List.mem_append_right _ z)
/-! ### promises -/
abbrev DSp := List T → Mu → KT → KX → Prop
def toSp (K : PySem.W.Frag) (dsp : DSp) : Sp := fun vs H Q E => ∃ (s : S) (ts : List T) (μ : Mu) (P : KT) (PX : KX), s.H = H ∧ Rel K s μ ∧ TRs K s ts vs ∧ dsp ts μ P PX ∧
  (∀ (s' : S) (v : V) (t : T) (μ' : Mu), Ext s s' → Rel K s' μ' → TR K s' t v → P t μ' → Q v s'.H) ∧
  (∀ (s' : S) (C d : Addr) (v : V) (t : T) (μ' : Mu), Ext s s' → Rel K s' μ' → XdAt s s' d v → TR K s' t v → PX C t μ' → E (.ref C) (some d) s'.H)
/-- freezing: what stands at a place is no more than its datum; a place's parts are told by their data -/
inductive Fz : Mu → Mu → Prop where
  | refl (μ : Mu) : Fz μ μ
  | lst {μ μ' : Mu} (n : Nat) {ts : List T} {ds : List PyData} (h : μ[n]? = some (.lst ts)) (a : allD μ ts = some ds) (k : Fz (μ.set n (.frz (.list ds))) μ') : Fz μ μ'
  | tup {μ μ' : Mu} (n : Nat) {ts : List T} {ds : List PyData} (h : μ[n]? = some (.tup ts)) (a : allD μ ts = some ds) (k : Fz (μ.set n (.frz (.tuple ds))) μ') : Fz μ μ'
  | nrm {μ μ' : Mu} (n : Nat) {ts : List T} (h : μ[n]? = some (.lst ts)) (k : Fz (μ.set n (.lst (ts.map (nm μ)))) μ') : Fz μ μ'
  | nrt {μ μ' : Mu} (n : Nat) {ts : List T} (h : μ[n]? = some (.tup ts)) (k : Fz (μ.set n (.tup (ts.map (nm μ)))) μ') : Fz μ μ'
theorem nms_ok {K : PySem.W.Frag} {s : S} {μ : Mu} (r : Rel K s μ) : ∀ {ts : List T} {vs : List V}, TRs K s ts vs → TRs K s (ts.map (nm μ)) vs
  | _, _, .nil => .nil
  | _, _, .cons h t => .cons (nm_ok r h) (nms_ok r t)
theorem Rel.told {K : PySem.W.Frag} {s : S} {μ : Mu} (r : Rel K s μ) {n : Nat} {o : O} (h : ∀ a, s.ι[n]? = some a → OR K s a o) : Rel K s (μ.set n o) := by
  refine ⟨r.sub, r.nd, by rw [List.length_set]; exact r.len, fun m b u h1 h2 => ?_, r.thr, r.nk, r.tb⟩
  by_cases e : n = m
  · subst e
    have l : n < μ.length := by rw [← r.len]; exact (List.getElem?_eq_some_iff.mp h1).1
    rw [List.getElem?_set_self l] at h2
    cases h2
    exact h b h1
  · rw [List.getElem?_set_ne e] at h2
    exact r.ob m b u h1 h2
theorem fz_ok {K : PySem.W.Frag} {μ μ' : Mu} (f : Fz μ μ') : ∀ {s : S}, Rel K s μ → ∃ s', s'.H = s.H ∧ s'.ι = s.ι ∧ Ext s s' ∧ Rel K s' μ' := by
  induction f with
  | refl μ => exact fun {s} r => ⟨s, rfl, rfl, Ext.refl s, r⟩
  | lst n h a k ih =>
    intro s r
    obtain ⟨b, hb⟩ : ∃ b, s.ι[n]? = some b := ⟨_, List.getElem?_eq_getElem (by rw [r.len]; exact (List.getElem?_eq_some_iff.mp h).1)⟩
    obtain ⟨g, xs, hx, tx⟩ := r.ob n b _ hb h
    have da := allD_ok r tx a
    have da' : DpAll K (upd s.G b (.lst xs)) xs _ := dpAll_up (G := s.G) (fun c u q => by rw [upd_ne (ne_of_none q g)]; exact q) da
    obtain ⟨r1, e1⟩ := r.freeze hb g hx (.lst (SqL.of upd_same) da')
    obtain ⟨s', h1, h2, h3, h4⟩ := ih r1
    exact ⟨s', h1, h2, e1.trans h3, h4⟩
  | tup n h a k ih =>
    intro s r
    obtain ⟨b, hb⟩ : ∃ b, s.ι[n]? = some b := ⟨_, List.getElem?_eq_getElem (by rw [r.len]; exact (List.getElem?_eq_some_iff.mp h).1)⟩
    obtain ⟨g, xs, hx, tx⟩ := r.ob n b _ hb h
    have da := allD_ok r tx a
    have da' : DpAll K (upd s.G b (.tup xs)) xs _ := dpAll_up (G := s.G) (fun c u q => by rw [upd_ne (ne_of_none q g)]; exact q) da
    obtain ⟨r1, e1⟩ := r.freeze hb g hx (.tup upd_same da')
    obtain ⟨s', h1, h2, h3, h4⟩ := ih r1
    exact ⟨s', h1, h2, e1.trans h3, h4⟩
  | nrm n h k ih =>
    intro s r
    exact ih (r.told fun b hb => by
      obtain ⟨g, xs, hx, tx⟩ := r.ob n b _ hb h
      exact ⟨g, xs, hx, nms_ok r tx⟩)
  | nrt n h k ih =>
    intro s r
    exact ih (r.told fun b hb => by
      obtain ⟨g, xs, hx, tx⟩ := r.ob n b _ hb h
      exact ⟨g, xs, hx, nms_ok r tx⟩)
/-! ### lent data: what stands at places out of the view is told by its data while the call lasts -/
def AtD : PyData → Prop
  | .none | .bool _ | .int _ | .str _ => True
  | _ => False
def AtT : T → Prop
  | .dat d => AtD d
  | .loc _ => True
  | .exc _ _ _ => False
  | .fn _ _ => False
def AtO : O → Prop
  | .lst ts => ∀ t ∈ ts, AtT t
  | .tup ts => ∀ t ∈ ts, AtT t
  | .ins _ fs => ∀ p ∈ fs, AtT p.2
  | .dk kvs => ∀ p ∈ kvs, AtT p.2
  | .dt kvs => ∀ p ∈ kvs, AtT p.2
  | .xd t => AtT t
  | .gone => True
  | _ => False
def mask (V : List Nat) (μ : Mu) : Mu := μ.mapIdx fun i o => if i ∈ V then .gone else o
theorem mask_at (V : List Nat) (μ : Mu) (n : Nat) : (mask V μ)[n]? = μ[n]?.map fun o => if n ∈ V then .gone else o := List.getElem?_mapIdx
theorem mask_out {V : List Nat} {μ : Mu} {n : Nat} {o : O} (h : μ[n]? = some o) (m : n ∉ V) : (mask V μ)[n]? = some o := by rw [mask_at, h, Option.map_some, if_neg m]
/-- an argument, seen by the callee as t0 -/
def BA (V : List Nat) (μ : Mu) (t t0 : T) : Prop := t = t0.ren (fV V μ) ∨ ∃ k d, t0 = .dat d ∧ toD k (mask V μ) t = some d
section
variable {K : PySem.W.Frag} {s : S} {μ μ0 : Mu} {V : List Nat}
theorem at_dp {G G' : Hp} {v : L2.V} {d : PyData} (h : Dp K G v d) (a : AtD d) : Dp K G' v d := by
  cases h with
  | non => exact .non
  | bl b => exact .bl b
  | int i => exact .int i
  | str x => exact .str x
  | lst _ _ => exact a.elim
  | tup _ _ => exact a.elim
theorem at_out {s' t : S} {f : Nat → Nat} (hi : ∀ (n : Nat) (a : Addr), s'.ι[n]? = some a → t.ι[f n]? = some a) {x : T} {v : L2.V} (a : AtT x) (h : TR K s' x v) : TR K t (x.ren f) v := by
  cases x with
  | dat d => exact at_dp h a
  | loc n =>
    obtain ⟨b, h1, h2⟩ := h
    exact ⟨b, hi n b h1, h2⟩
  | exc _ _ _ => exact a.elim
  | fn _ _ => exact a.elim
theorem ats_out {s' t : S} {f : Nat → Nat} (hi : ∀ (n : Nat) (a : Addr), s'.ι[n]? = some a → t.ι[f n]? = some a) : ∀ {xs : List T} {vs : List L2.V}, (∀ x ∈ xs, AtT x) → TRs K s' xs vs → TRs K t (xs.map (T.ren f)) vs
  | _, _, _, .nil => .nil
  | _, _, a, .cons h1 h2 => .cons (at_out hi (a _ List.mem_cons_self) h1) (ats_out hi (fun x m => a x (List.mem_cons_of_mem _ m)) h2)
theorem atk_out {κ : Type} {s' t : S} {f : Nat → Nat} (hi : ∀ (n : Nat) (a : Addr), s'.ι[n]? = some a → t.ι[f n]? = some a) : ∀ {xs : List (κ × T)} {vs : List (κ × L2.V)}, (∀ x ∈ xs, AtT x.2) → Paired (KR K s') xs vs → Paired (KR K t) (xs.map fun p => (p.1, p.2.ren f)) vs
  | _, _, _, .nil => .nil
  | _, _, a, .cons h1 h2 => .cons ⟨h1.1, at_out hi (a _ List.mem_cons_self) h1.2⟩ (atk_out hi (fun x m => a x (List.mem_cons_of_mem _ m)) h2)
theorem atO_out {s' t : S} {f : Nat → Nat} (hi : ∀ (n : Nat) (a : Addr), s'.ι[n]? = some a → t.ι[f n]? = some a) {a : Addr} {o : O} (p : AtO o) (h1 : s'.G a = none → t.G a = none) (h2 : ∀ u, s'.H a = some u → t.H a = some u) (h : OR K s' a o) : OR K t a (o.ren f) := by
  cases o with
  | lst ts => obtain ⟨g, xs, e, r⟩ := h; exact ⟨h1 g, xs, h2 _ e, ats_out hi p r⟩
  | tup ts => obtain ⟨g, xs, e, r⟩ := h; exact ⟨h1 g, xs, h2 _ e, ats_out hi p r⟩
  | ins C fs => obtain ⟨g, dx, vs, e, r⟩ := h; exact ⟨h1 g, dx, vs, h2 _ e, atk_out (K := K) hi p r⟩
  | dk kvs => obtain ⟨g, ws, e, r⟩ := h; exact ⟨h1 g, ws, h2 _ e, atk_out hi p r⟩
  | dt kvs => obtain ⟨g, ws, e, r⟩ := h; exact ⟨h1 g, ws, h2 _ e, atk_out hi p r⟩
  | lk kvs od ws => exact p.elim
  | xd t => obtain ⟨g, v, e, r⟩ := h; exact ⟨h1 g, v, h2 _ e, at_out hi p r⟩
  | frz d => exact p.elim
  | gone => trivial
mutual
theorem toD_str {G0 : Hp} (r : Rel K s μ) (g : Same s.G G0) (hb : ∀ (n : Nat) (a : Addr) (o : O), s.ι[n]? = some a → μ[n]? = some o → o ≠ .gone → ∀ u, s.H a = some u → G0 a = some u) : ∀ (k : Nat) {t : T} {v : L2.V} {d : PyData}, TR K s t v → toD k μ t = some d → Dp K G0 v d
  | k, .dat d, v, d', h, e => by
    rw [toD_dat] at e
    cases e
    exact dp_up g h
  | k, .exc a b n, v, d', h, e => by cases k <;> simp [toD] at e
  | k, .fn f p, v, d', h, e => by cases k <;> simp [toD] at e
  | 0, .loc n, v, d', h, e => by simp [toD] at e
  | k + 1, .loc n, v, d', h, e => by
    obtain ⟨a, h1, h2⟩ := h
    subst h2
    rw [toD] at e
    split at e
    · rename_i ts ho
      obtain ⟨_, xs, hx, hr⟩ := r.ob n a _ h1 ho
      cases q : toDs k μ ts with
      | none => rw [q] at e; cases e
      | some ds =>
        rw [q] at e
        cases e
        exact .lst (SqL.of (hb n a _ h1 ho (fun z => nomatch z) _ hx)) (toDs_str r g hb k hr q)
    · rename_i ts ho
      obtain ⟨_, xs, hx, hr⟩ := r.ob n a _ h1 ho
      cases q : toDs k μ ts with
      | none => rw [q] at e; cases e
      | some ds =>
        rw [q] at e
        cases e
        exact .tup (hb n a _ h1 ho (fun z => nomatch z) _ hx) (toDs_str r g hb k hr q)
    · rename_i d ho
      cases e
      exact dp_up g (r.ob n a _ h1 ho)
    · cases e
  termination_by k t _ _ _ _ => (k, 0, 0)
theorem toDs_str {G0 : Hp} (r : Rel K s μ) (g : Same s.G G0) (hb : ∀ (n : Nat) (a : Addr) (o : O), s.ι[n]? = some a → μ[n]? = some o → o ≠ .gone → ∀ u, s.H a = some u → G0 a = some u) : ∀ (k : Nat) {ts : List T} {vs : List L2.V} {ds : List PyData}, TRs K s ts vs → toDs k μ ts = some ds → DpAll K G0 vs ds
  | k, [], vs, ds, h, e => by
    cases h
    simp [toDs] at e
    subst e
    exact .nil
  | k, t :: ts, vs, ds, h, e => by
    cases h with
    | cons h1 h2 =>
      rw [toDs] at e
      split at e
      · rename_i d ds' e1 e2
        cases e
        exact .cons (toD_str r g hb k h1 e1) (toDs_str r g hb k h2 e2)
      · cases e
  termination_by k ts _ _ _ _ => (k, 1, ts.length)
end
theorem Rel.masked (r : Rel K s μ) (V : List Nat) : Rel K s (mask V μ) := by
  refine ⟨r.sub, r.nd, by unfold mask; rw [List.length_mapIdx]; exact r.len, fun n a o h1 h2 => ?_, r.thr, r.nk, r.tb⟩
  rw [mask_at] at h2
  cases q : μ[n]? with
  | none => rw [q] at h2; cases h2
  | some u =>
    rw [q] at h2
    by_cases m : n ∈ V
    · rw [Option.map_some, if_pos m] at h2
      cases h2
      trivial
    · rw [Option.map_some, if_neg m] at h2
      cases h2
      exact r.ob n a _ h1 q
/-- the heap that never changes while the call lasts -/
def lentG (s : S) (V : List Nat) : Hp := fun a => if a ∈ s.ι ∧ a ∉ adr s V then s.H a else s.G a
theorem lent_same (r : Rel K s μ) : Same s.G (lentG s V) := fun a o h => by
  unfold lentG
  split
  · exact r.sub a o h
  · exact h
theorem lent_view (r : Rel K s μ) (w : View V μ μ0) : Rel K ⟨adr s V, lentG s V, s.H⟩ μ0 := by
  have r0 := r.view w
  refine ⟨fun a o h => ?_, r0.nd, r0.len, fun n a o h1 h2 => ?_, r0.thr, r0.nk, ⟨fun a ps h => ?_, r.tb.h⟩⟩
  · have h : (if a ∈ s.ι ∧ a ∉ adr s V then s.H a else s.G a) = some o := h
    split at h
    · exact h
    · exact r.sub a o h
  · have h := r0.ob n a o h1 h2
    refine OR.same (s := ⟨adr s V, s.G, s.H⟩) (s' := ⟨adr s V, lentG s V, s.H⟩) (lent_same r) (fun n b z => z) (fun z => ?_) (fun u z => z) h
    show (if a ∈ s.ι ∧ a ∉ adr s V then s.H a else s.G a) = none
    rw [if_neg (fun z => z.2 (List.mem_of_getElem? h1))]
    exact z
  · have h : (if a ∈ s.ι ∧ a ∉ adr s V then s.H a else s.G a) = some (.tbl ps) := h
    split at h
    · rename_i c
      exact (r.nk a _ c.1 h).tb ps rfl
    · exact r.tb.g a ps h
theorem ba_in (r : Rel K s μ) (w : View V μ μ0) {t t0 : T} {v : L2.V} (b : BA V μ t t0) (h : TR K s t v) : TR K ⟨adr s V, lentG s V, s.H⟩ t0 v := by
  rcases b with rfl | ⟨k, d, rfl, e⟩
  · exact tr_in (s := s) (s0 := ⟨adr s V, lentG s V, s.H⟩) (lent_same r) (fun n a z => view_in r w.lt n a z) h
  · refine toD_str (G0 := lentG s V) (r.masked V) (lent_same r) (fun n a o h1 h2 h3 u h4 => ?_) k h e
    rw [mask_at] at h2
    have nv : n ∉ V := fun m => by
      cases q : μ[n]? with
      | none => rw [q] at h2; cases h2
      | some o' =>
        rw [q, Option.map_some, if_pos m] at h2
        exact h3 (Option.some.inj h2).symm
    have na : a ∉ adr s V := fun z => by
      obtain ⟨j, hj⟩ := List.mem_iff_getElem?.mp z
      obtain ⟨i, q1, q2⟩ := adr_back r w.lt hj
      have : n = i := nd_ix r.nd h1 q2
      subst this
      exact nv (List.mem_of_getElem? q1)
    show (if a ∈ s.ι ∧ a ∉ adr s V then s.H a else s.G a) = some u
    rw [if_pos ⟨List.mem_of_getElem? h1, na⟩]
    exact h4
theorem bas_in (r : Rel K s μ) (w : View V μ μ0) : ∀ {ts ts0 : List T} {vs : List L2.V}, Paired (BA V μ) ts ts0 → TRs K s ts vs → TRs K ⟨adr s V, lentG s V, s.H⟩ ts0 vs
  | _, _, _, .nil, h => by cases h; exact .nil
  | _, _, _, .cons b1 b2, h => by
    cases h with
    | cons h1 h2 => exact .cons (ba_in r w b1 h1) (bas_in r w b2 h2)
/-- behind a call with lent data -/
structure BackL (K : PySem.W.Frag) (s : S) (μ : Mu) (V : List Nat) (s' : S) (μ' : Mu) (t : S) : Prop where
  rel : Rel K t (setAll μ V (μ'.map (O.ren (gV V μ))))
  ext : Ext s t
  h : t.H = s'.H
  g : ∀ a, s.H a = none → s'.G a = none → t.G a = none
  i : ∃ l, s'.ι = adr s V ++ l ∧ t.ι = s.ι ++ l
  tr : ∀ x v, AtT x → TR K s' x v → TR K t (x.ren (gV V μ)) v
theorem call_backL (r : Rel K s μ) (w : View V μ μ0) {s' : S} {μ' : Mu} (e : Ext ⟨adr s V, lentG s V, s.H⟩ s') (r' : Rel K s' μ') (pu : ∀ o ∈ μ', AtO o) : ∃ t, BackL K s μ V s' μ' t := by
  obtain ⟨l, hl⟩ := e.io
  have hl : s'.ι = adr s V ++ l := hl
  have la : (adr s V).length = V.length := by unfold adr; rw [List.length_map]
  have lm : V.length + l.length = μ'.length := by rw [← r'.len, hl, List.length_append, la]
  have notin : ∀ a, a ∈ l → a ∉ s.ι := fun a ha m => by
    have n1 : a ∉ adr s V := fun z => by
      have nd := r'.nd
      rw [hl] at nd
      exact (List.nodup_append.mp nd).2.2 a z a ha rfl
    have := e.nl a (by rw [hl]; exact List.mem_append_right _ ha) n1
    exact r.thr a m this
  have hi : ∀ (n : Nat) (a : Addr), s'.ι[n]? = some a → (s.ι ++ l)[gV V μ n]? = some a := fun n a h => by
    rw [hl] at h
    unfold gV
    by_cases c : n < V.length
    · rw [List.getElem?_append_left (by rw [la]; exact c)] at h
      obtain ⟨i, q1, q2⟩ := adr_back r w.lt h
      rw [getD_of q1, List.getElem?_append_left (List.getElem?_eq_some_iff.mp q2).1]
      exact q2
    · rw [List.getElem?_append_right (by rw [la]; omega), la] at h
      rw [getD_none (List.getElem?_eq_none (by omega)), List.getElem?_append_right (by rw [r.len]; omega), r.len]
      rw [show μ.length + (n - V.length) - μ.length = n - V.length by omega]
      exact h
  have wl : V.length ≤ (μ'.map (O.ren (gV V μ))).length := by rw [List.length_map]; omega
  obtain ⟨G1, hG⟩ : ∃ G1 : Hp, G1 = fun a => if a ∈ s.ι ∧ a ∉ adr s V then s.G a else s'.G a := ⟨_, rfl⟩
  have gin : ∀ {a}, a ∈ s.ι → a ∉ adr s V → G1 a = s.G a := fun {a} h1 h2 => by rw [hG]; exact if_pos ⟨h1, h2⟩
  have gout : ∀ {a}, ¬ (a ∈ s.ι ∧ a ∉ adr s V) → G1 a = s'.G a := fun {a} h => by rw [hG]; exact if_neg h
  have hfr : ∀ a u, s.H a = some u → a ∉ adr s V → (∀ ps, u ≠ .tbl ps) → s'.H a = some u := fun a u h m nt => e.fr a u h m nt
  have hfn : ∀ a u, a ∈ s.ι → s.H a = some u → a ∉ adr s V → s'.H a = some u := fun a u i h m => e.fr a u h m (r.nk a u i h).tb
  have sG : Same s.G G1 := fun a o h => by
    by_cases c : a ∈ s.ι ∧ a ∉ adr s V
    · rw [gin c.1 c.2]; exact h
    · rw [gout c]
      refine e.g a o ?_
      show (if a ∈ s.ι ∧ a ∉ adr s V then s.H a else s.G a) = some o
      rw [if_neg c]
      exact h
  refine ⟨⟨s.ι ++ l, G1, s'.H⟩, ⟨fun a o h => ?_, ?_, ?_, fun n a o h1 h2 => ?_, fun a h => ?_, fun a o h q => ?_, ⟨fun a ps h => ?_, r'.tb.h⟩⟩, ⟨⟨l, rfl⟩, sG, fun a o h m nt => hfr a o h (fun z => m (adr_mem r w.lt z)) nt, fun a h h' => ?_, fun a h m => ?_, fun a h => (e.nb a h).imp id fun z => adr_mem r w.lt z⟩, rfl, fun a h1 h2 => ?_, ⟨l, hl, rfl⟩, fun x v a h => at_out hi a h⟩
  · have h : G1 a = some o := h
    by_cases c : a ∈ s.ι ∧ a ∉ adr s V
    · rw [gin c.1 c.2] at h
      exact hfn a o c.1 (r.sub a o h) c.2
    · rw [gout c] at h
      exact r'.sub a o h
  · refine List.nodup_append.mpr ⟨r.nd, ?_, fun a ha b hb z => notin b hb (z ▸ ha)⟩
    have nd := r'.nd
    rw [hl] at nd
    exact (List.nodup_append.mp nd).2.1
  · show (s.ι ++ l).length = _
    rw [setAll_len V μ _ wl, List.length_append, List.length_map, r.len]
    omega
  · have h1 : (s.ι ++ l)[n]? = some a := h1
    by_cases c : n < s.ι.length
    · rw [List.getElem?_append_left c] at h1
      by_cases m : n ∈ V
      · obtain ⟨k, hk⟩ := List.mem_iff_getElem?.mp m
        rw [setAll_in V μ _ k n w.nd wl w.lt hk, List.getElem?_map] at h2
        cases q : μ'[k]? with
        | none => rw [q] at h2; cases h2
        | some o' =>
          rw [q] at h2
          cases h2
          obtain ⟨b, p1, p2⟩ := adr_get r w.lt hk
          rw [h1] at p1
          cases p1
          have p3 : s'.ι[k]? = some a := by rw [hl, List.getElem?_append_left (List.getElem?_eq_some_iff.mp p2).1]; exact p2
          exact atO_out (t := ⟨s.ι ++ l, G1, s'.H⟩) hi (pu _ (List.mem_of_getElem? q)) (fun g => by
            show G1 a = none
            rw [gout (fun z => z.2 (List.mem_of_getElem? p2))]
            exact g) (fun u z => z) (r'.ob k a o' p3 q)
      · rw [setAll_out V μ _ n m (by rw [← r.len]; exact c)] at h2
        have na : a ∉ adr s V := fun z => by
          obtain ⟨k, hk⟩ := List.mem_iff_getElem?.mp z
          obtain ⟨i, q1, q2⟩ := adr_back r w.lt hk
          have : n = i := nd_ix r.nd h1 q2
          subst this
          exact m (List.mem_of_getElem? q1)
        refine OR.same (s := s) (s' := ⟨s.ι ++ l, G1, s'.H⟩) sG (fun j b z => ?_) (fun g => ?_) (fun u z => hfn a u (List.mem_of_getElem? h1) z na) (r.ob n a o h1 h2)
        · show (s.ι ++ l)[j]? = some b
          rw [List.getElem?_append_left (List.getElem?_eq_some_iff.mp z).1]
          exact z
        · show G1 a = none
          rw [gin (List.mem_of_getElem? h1) na]
          exact g
    · obtain ⟨j, rfl⟩ : ∃ j, n = s.ι.length + j := ⟨n - s.ι.length, by omega⟩
      rw [List.getElem?_append_right (by omega), show s.ι.length + j - s.ι.length = j by omega] at h1
      rw [r.len, setAll_new V μ _ j wl, List.getElem?_map] at h2
      cases q : μ'[V.length + j]? with
      | none => rw [q] at h2; cases h2
      | some o' =>
        rw [q] at h2
        cases h2
        have p3 : s'.ι[V.length + j]? = some a := by
          rw [hl, List.getElem?_append_right (by omega), la, show V.length + j - V.length = j by omega]
          exact h1
        exact atO_out (t := ⟨s.ι ++ l, G1, s'.H⟩) hi (pu _ (List.mem_of_getElem? q)) (fun g => by
          show G1 a = none
          rw [gout (fun z => notin a (List.mem_of_getElem? h1) z.1)]
          exact g) (fun u z => z) (r'.ob _ a o' p3 q)
  · have h : a ∈ s.ι ++ l := h
    rcases List.mem_append.mp h with z | z
    · by_cases na : a ∈ adr s V
      · exact r'.thr a (by rw [hl]; exact List.mem_append_left _ na)
      · obtain ⟨u, hu⟩ := not_none (r.thr a z)
        show s'.H a ≠ none
        rw [hfn a u z hu na]
        simp
    · exact r'.thr a (by rw [hl]; exact List.mem_append_right _ z)
  · have h : a ∈ s.ι ++ l := h
    rcases List.mem_append.mp h with z | z
    · by_cases m : a ∈ adr s V
      · exact r'.nk a o (by rw [hl]; exact List.mem_append_left _ m) q
      · cases w : s.H a with
        | none => exact absurd w (r.thr a z)
        | some u =>
          have := hfn a u z w m
          have q : s'.H a = some o := q
          rw [q] at this
          cases this
          exact r.nk a o z w
    · exact r'.nk a o (by rw [hl]; exact List.mem_append_right _ z) q
  · have h : G1 a = some (.tbl ps) := h
    by_cases c : a ∈ s.ι ∧ a ∉ adr s V
    · rw [gin c.1 c.2] at h; exact r.tb.g a ps h
    · rw [gout c] at h; exact r'.tb.g a ps h
  · have h : G1 a ≠ none := h
    by_cases c : a ∈ s.ι ∧ a ∉ adr s V
    · exact .inr (.inl c.1)
    · rw [gout c] at h
      refine (e.nw a h ?_).imp id fun z => z.imp (fun z => adr_mem r w.lt z) id
      show (if a ∈ s.ι ∧ a ∉ adr s V then s.H a else s.G a) = none
      rw [if_neg c]
      exact h'
  · have h : a ∈ s.ι ++ l := h
    rcases List.mem_append.mp h with z | z
    · exact absurd z m
    · refine e.nl a (by rw [hl]; exact List.mem_append_right _ z) fun z2 => ?_
      exact m (adr_mem r w.lt z2)
  · show G1 a = none
    rw [gout (fun z => r.thr a z.1 h1)]
    exact h2
theorem BackL.xd {s' t : S} {μ' : Mu} {d : Addr} {v : L2.V} (b : BackL K s μ V s' μ' t) (r : Rel K s μ) (x : XdAt ⟨adr s V, lentG s V, s.H⟩ s' d v) : XdAt s t d v := by
  refine ⟨by rw [b.h]; exact x.h, x.o, b.g d x.o x.g, fun m => ?_⟩
  obtain ⟨l, e1, e2⟩ := b.i
  rw [e2] at m
  rcases List.mem_append.mp m with z | z
  · exact r.thr d z x.o
  · exact x.n (by rw [e1]; exact List.mem_append_right _ z)
end
/-- a call, by the places that the callee sees; with lent data what comes back is made of plain things and places -/
def callGo (dsp : DSp) (ns : List T) (μ : Mu) (P : KT) (PX : KX) : Prop := ∃ (V : List Nat) (ts0 : List T) (μ0 : Mu), View V μ μ0 ∧
  ((ns = ts0.map (T.ren (fV V μ)) ∧ dsp ts0 μ0 (fun t μ' => P (t.ren (gV V μ)) (setAll μ V (μ'.map (O.ren (gV V μ))))) (fun C t μ' => PX C (t.ren (gV V μ)) (setAll μ V (μ'.map (O.ren (gV V μ)))))) ∨
  (Paired (BA V μ) ns ts0 ∧ dsp ts0 μ0 (fun t μ' => (AtT t ∧ ∀ o ∈ μ', AtO o) ∧ P (t.ren (gV V μ)) (setAll μ V (μ'.map (O.ren (gV V μ))))) (fun C t μ' => (AtT t ∧ ∀ o ∈ μ', AtO o) ∧ PX C (t.ren (gV V μ)) (setAll μ V (μ'.map (O.ren (gV V μ)))))))
def callD (dsp : DSp) (ts : List T) (μ : Mu) (P : KT) (PX : KX) : Prop := ∃ μf : Mu, Fz μ μf ∧ callGo dsp (ts.map (nm μf)) μf P PX
theorem callD_ok {K : PySem.W.Frag} {W : WX} {σ : St} {s : S} {μ : Mu} {ts : List T} {vs : List V} {dsp : DSp} {P : KT} {PX : KX} {Q : VK} (r : Rel K s μ) (h : TRs K s ts vs) (c : callD dsp ts μ P PX) (th : Thr K W σ s PX)
    (q : ∀ s' v t μ', Ext s s' → Rel K s' μ' → TR K s' t v → P t μ' → Q v s'.H) : toSp K dsp vs s.H Q (L2.WE W σ) := by
  obtain ⟨μf, fz, V, ts0, μ0, w, c⟩ := c
  obtain ⟨s1, hh, hi, e1, r1⟩ := fz_ok fz r
  have th1 := th.up e1
  rw [← hh]
  rcases c with ⟨et, hd⟩ | ⟨et, hd⟩
  · have h1 : TRs K s1 (ts0.map (T.ren (fV V μf))) vs := et ▸ nms_ok r1 (h.up e1)
    refine ⟨⟨adr s1 V, s1.G, s1.H⟩, ts0, μ0, _, _, rfl, r1.view w, trs_in (s := s1) (s0 := ⟨adr s1 V, s1.G, s1.H⟩) (Same.refl _) (fun n a z => view_in r1 w.lt n a z) h1, hd, fun s' v t μ' e r' t' h' => ?_, fun s' C d v t μ' e r' hd t' h' => ?_⟩
    · obtain ⟨u, b⟩ := call_back r1 w e r'
      have := q u v _ _ (e1.trans b.ext) b.rel (b.tr t v t') h'
      rw [b.h] at this
      exact this
    · obtain ⟨u, b⟩ := call_back r1 w e r'
      have hd' : XdAt s1 u d v := b.xd r1 hd
      have := th1 u C d v _ _ b.ext b.rel hd' (b.tr t v t') h'
      rw [b.h] at this
      exact this
  · refine ⟨⟨adr s1 V, lentG s1 V, s1.H⟩, ts0, μ0, _, _, rfl, lent_view r1 w, bas_in r1 w et (nms_ok r1 (h.up e1)), hd, fun s' v t μ' e r' t' h' => ?_, fun s' C d v t μ' e r' hd t' h' => ?_⟩
    · obtain ⟨⟨at1, at2⟩, h'⟩ := h'
      obtain ⟨u, b⟩ := call_backL r1 w e r' at2
      have := q u v _ _ (e1.trans b.ext) b.rel (b.tr t v at1 t') h'
      rw [b.h] at this
      exact this
    · obtain ⟨⟨at1, at2⟩, h'⟩ := h'
      obtain ⟨u, b⟩ := call_backL r1 w e r' at2
      have hd' : XdAt s1 u d v := b.xd r1 hd
      have := th1 u C d v _ _ b.ext b.rel hd' (b.tr t v at1 t') h'
      rw [b.h] at this
      exact this
def wCall (dsp : DSp) (wa : WpA) : WpE := fun env μ P PX => wa env μ (fun ts μ1 => callD dsp ts μ1 P PX) PX
def wMeth (C : Addr) (m : Str) (dsp : DSp) (wo : WpE) (wa : WpA) : WpE := fun env μ P PX => wo env μ (fun t μ1 => match rdI μ1 t with
  | some (C', fs) => C' = C ∧ fs.lookup m = none ∧ wa env μ1 (fun ts μ2 => callD dsp (t :: ts) μ2 P PX) PX
  | none => False) PX
def wProp (C : Addr) (dsp : DSp) (wo : WpE) : WpE := fun env μ P PX => wo env μ (fun t μ1 => match rdI μ1 t with
  | some (C', fs) => C' = C ∧ callD dsp [t] μ1 P NX
  | none => False) PX
def wMake (C : Addr) (dsp : DSp) (wa : WpA) : WpE := fun env μ P PX => wa env μ (fun ts μ1 => callD dsp (.loc μ1.length :: ts) (μ1 ++ [.ins C []]) (fun t μ2 => t = .dat .none ∧ P (.loc μ1.length) μ2) PX) PX
section
variable {X : Cx} {W : WX} {k : Nat} {f C : Addr} {fd : FuncData} {ps : List Str} {dsp : DSp} {x m : Str} {p pos apos : Pos} {e o : Expr} {es : List Expr} {wo : WpE} {wa : WpA}
theorem je_call (F : FnG X.prog X.w X.K X.mg X.base k f fd ps (toSp X.K dsp)) (hr : Room k X.A) (hgd : X.A.guards = some []) (hm : X.mg x = some (.ref f)) (hk : PySem.W.keepIn X.K (.ref f) = true) (hb : Binds X.K fd ps []) (tk : Takes X W)
    (ha : JA X W (e :: es) wa) (hg : Gl X x := by rfl) (hdb : (x == ("__debug__" : Str)) = false := by decide) (he : starEach (e :: es) X.env = (false, eval e X.env) :: starEach es X.env := by rfl) (hpl : (backTo pos (starEach es X.env)).any (·.1) = false := by rfl) :
    JE X W (.Call (.Name x p) (e :: es) [] pos) (wCall dsp wa) := by
  obtain ⟨_, pa, sa⟩ := ha
  refine ⟨_, pe_callG F hr hgd hg hm hk hb (passAt tk) pa hdb he hpl, fun s μ env σ P PX r en hw th Q q => ?_⟩
  refine sa s μ env σ _ PX r en hw th _ fun s1 vs ts μ1 e1 r1 t1 h1 => ?_
  exact callD_ok r1 t1 h1 (th.up e1) fun s2 v t μ2 e2 r2 t2 h2 => q s2 v t μ2 (e1.trans e2) r2 t2 h2
end
/-! ### a def keeps its promise -/
def startE (n : Nat) (ts : List T) : En := ts.map some ++ List.replicate (n - ts.length) none
theorem start_ok {K : PySem.W.Frag} {s : S} {N : List Str} {ts : List T} {vs : List V} (h : TRs K s ts vs) : EnR K s (startE N.length ts) (L2.start N vs) := by
  unfold startE L2.start
  rw [h.len]
  have a1 : EnR K s (ts.map some) (vs.map some) := by
    induction h with
    | nil => exact .nil
    | cons r _ ih => exact .cons (fun x hx => by cases hx; exact ⟨_, rfl, r⟩) ih
  have a2 : ∀ m : Nat, EnR K s (List.replicate m none) (List.replicate m none) := fun m => by
    induction m with
    | zero => exact .nil
    | succ m ih => rw [List.replicate_succ, List.replicate_succ]; exact .cons (fun x hx => by cases hx) ih
  have app : ∀ {a : En} {b : St}, EnR K s a b → ∀ {c : En} {d : St}, EnR K s c d → EnR K s (a ++ c) (b ++ d) := fun {a b} h => by
    induction h with
    | nil => exact fun h => h
    | cons r _ ih => exact fun h => .cons r (ih h)
  exact app a1 (a2 _)
/-- what a def hands back: seen through a view that begins with its arguments' places -/
def endV (n0 : Nat) (P : KT) : KT := fun t μ => ∃ (μf : Mu) (V : List Nat) (t0 : T) (μ0 : Mu), Fz μ μf ∧ V.take n0 = List.range n0 ∧ View V μf μ0 ∧ nm μf t = t0.ren (fV V μf) ∧ P t0 μ0
theorem endV_ext {K : PySem.W.Frag} {s s' : S} {n0 : Nat} {μ μ0 : Mu} {V : List Nat} (e : Ext s s') (hn : s.ι.length = n0) (r : Rel K s' μ) (hv : V.take n0 = List.range n0) (w : View V μ μ0) : Ext s ⟨adr s' V, s'.G, s'.H⟩ := by
  have io : ∃ l, adr s' V = s.ι ++ l := by
    refine ⟨(adr s' V).drop n0, ?_⟩
    have h1 : adr s' V = (adr s' V).take n0 ++ (adr s' V).drop n0 := (List.take_append_drop n0 _).symm
    have h2 : (adr s' V).take n0 = s.ι := by
      obtain ⟨l, hl⟩ := e.io
      unfold adr
      rw [← List.map_take, hv]
      apply List.ext_getElem?
      intro i
      rw [List.getElem?_map]
      by_cases c : i < n0
      · rw [List.getElem?_range c, Option.map_some, hl, List.getElem?_append_left (by omega)]
        have : i < s.ι.length := by omega
        simp [this]
      · rw [List.getElem?_eq_none (by simpa using c), Option.map_none, List.getElem?_eq_none (by omega)]
    rw [h2] at h1
    exact h1
  exact ⟨io, e.g, e.fr, e.nw, fun a m n => e.nl a (adr_mem r w.lt m) n, e.nb⟩
theorem endV_ok {K : PySem.W.Frag} {s s' : S} {n0 : Nat} {P : KT} {t : T} {v : V} {μ : Mu} {Q : VK} (e : Ext s s') (hn : s.ι.length = n0) (r : Rel K s' μ) (tv : TR K s' t v) (h : endV n0 P t μ)
    (q : ∀ (s' : S) (v : V) (t : T) (μ' : Mu), Ext s s' → Rel K s' μ' → TR K s' t v → P t μ' → Q v s'.H) : Q v s'.H := by
  obtain ⟨μf, V, t0, μ0, fz, hv, w, et, hp⟩ := h
  obtain ⟨s1, hh, hi, e1, r1⟩ := fz_ok fz r
  have tv1 : TR K s1 (t0.ren (fV V μf)) v := et ▸ nm_ok r1 (tv.up e1)
  rw [← hh]
  exact q ⟨adr s1 V, s1.G, s1.H⟩ v t0 μ0 (endV_ext (e.trans e1) hn r1 hv w) (r1.view w) (tr_in (s := s1) (s0 := ⟨adr s1 V, s1.G, s1.H⟩) (Same.refl _) (fun n a z => view_in r1 w.lt n a z) tv1) hp
section
variable {P : Program} {w : World} {K : PySem.W.Frag} {mg : Str → Option Value} {base : Heap}
/-- a def's promise from its body, its record being told -/
theorem FnD.okA {name qual : Str} {params : Arguments} {body : List Stmt} {scope : Scope} {dV kV doc pm cdv ct oc : Value} {an od : Option Addr} {osl : Array (Option Value)} {f : Addr} {N ps : List Str} {k : Nat} {dsp : DSp} {ws : WpS}
    (lk : K.lookup f = some ⟨oc, od, .func (PySem.W.fnOf name qual params body scope dV kV doc pm an cdv ct), osl⟩) (hcd : PySem.W.codeIn K cdv qual = true) (S : FnScope N ps scope) (len : ∀ ts μ PT PX, dsp ts μ PT PX → ts.length = ps.length)
    (hbody : ∀ (A : Around) (outer : List Env) (s : Shared) (H : Hp) (E : XK), Room k (A.deeper (envOfC qual scope s.heap.objs.size f cdv)) → (A.deeper (envOfC qual scope s.heap.objs.size f cdv)).guards = some [] →
      JB (cxOf (L2.CX P w) P w K mg base N qual scope f cdv A outer s H E) (fun c d _ H => E c d H) body ws)
    (hw : ∀ ts μ PT PX, dsp ts μ PT PX → ws { nx := fun _ μ' => endV μ.length PT (.dat .none) μ', rt := endV μ.length PT, ex := fun C t _ μ' => endV μ.length (PX C) t μ' } (startE N.length ts) μ) :
    FnG P w K mg base (k + 1) f (PySem.W.fnOf name qual params body scope dV kV doc pm an cdv ct) ps (toSp K dsp) := by
  refine fn_ofG lk hcd S (fun vs H Q E ⟨s, ts, μ, PT, PX, _, _, tv, hd, _⟩ => by rw [← tv.len]; exact len ts μ PT PX hd) fun A outer s H vs Q E hr hgd hsp => ?_
  obtain ⟨s0, ts, μ, PT, PX, rfl, r, tv, hd, q, qx⟩ := hsp
  obtain ⟨t, ht, st⟩ := hbody A outer s s0.H E hr hgd
  refine ⟨t, ht, st s0 μ (startE N.length ts) (L2.start N vs) _ _ r (start_ok tv) (hw ts μ PT PX hd) ⟨fun s' μ' env σ e r' en h => ?_, fun s' μ' v t e r' tv' h => ?_, fun s' μ' env σ e r' en h => h.elim, fun s' μ' env σ e r' en h => h.elim, fun s' μ' env σ C d v t e r' en hx tv' h => ?_⟩⟩
  · exact endV_ok e r.len r' (v := .non) mk_none h q
  · exact endV_ok e r.len r' tv' h q
  · -- the error's own dict is no place
    obtain ⟨μf, V, t0, μ0, fz, hv, vw, et, hp⟩ := h
    obtain ⟨s1, hh, hi, e1, r1⟩ := fz_ok fz r'
    have tv1 : TR K s1 (t0.ren (fV V μf)) v := et ▸ nm_ok r1 (tv'.up e1)
    have io := endV_ext (e.trans e1) r.len r1 hv vw
    have hg1 : s1.G d = none := by
      cases q : s1.G d with
      | none => rfl
      | some u =>
        rcases e1.nw d (by rw [q]; exact fun z => by cases z) hx.g with z | z | ⟨o1, z, k⟩
        · rw [hx.h] at z; cases z
        · exact absurd z hx.n
        · rw [hx.h] at z; cases z; exact absurd nk_xd k
    rw [← hh]
    exact qx ⟨adr s1 V, s1.G, s1.H⟩ C d v t0 μ0 io (r1.view vw) ⟨by show s1.H d = _; rw [hh]; exact hx.h, hx.o, hg1, fun m => hx.n (by rw [← hi]; exact adr_mem r1 vw.lt m)⟩ (tr_in (s := s1) (s0 := ⟨adr s1 V, s1.G, s1.H⟩) (Same.refl _) (fun n a z => view_in r1 vw.lt n a z) tv1) hp
theorem FnD.ok {x qual : Str} {st : Stmt} {f : Addr} {fd : FuncData} {N ps : List Str} {k : Nat} {dsp : DSp} {ws : WpS} (F : Fun K x qual st f fd) (S : FnScope N ps (defScope st)) (len : ∀ ts μ PT PX, dsp ts μ PT PX → ts.length = ps.length)
    (hbody : ∀ (cdv : Value) (A : Around) (outer : List Env) (s : Shared) (H : Hp) (E : XK), Room k (A.deeper (envOfC qual (defScope st) s.heap.objs.size f cdv)) → (A.deeper (envOfC qual (defScope st) s.heap.objs.size f cdv)).guards = some [] →
      JB (cxOf (L2.CX P w) P w K mg base N qual (defScope st) f cdv A outer s H E) (fun c d _ H => E c d H) (defBody st) ws)
    (hw : ∀ ts μ PT PX, dsp ts μ PT PX → ws { nx := fun _ μ' => endV μ.length PT (.dat .none) μ', rt := endV μ.length PT, ex := fun C t _ μ' => endV μ.length (PX C) t μ' } (startE N.length ts) μ) :
    FnG P w K mg base (k + 1) f fd ps (toSp K dsp) := by
  obtain ⟨oc, od, kV, doc, pm, an, cdv, ct, osl, rfl, lk, hcd⟩ := F.ex
  exact FnD.okA lk hcd S len (hbody cdv) hw
end
end DL
/-! DL7: operators, built-in functions and methods of the data layer. -/
namespace DL
open PySem PySem.Spec L2
open PyProof.Rows (list_addW)
section
variable {X : Cx} {K : PySem.W.Frag}
/-! ### ints -/
def CPowW (i j : Int) : Prop := 0 ≤ j ∧ (Builtin.Int.intBits i : Int) * j ≤ 2 ^ 27
theorem op_powW : OpR X (binaryOp .Pow) (rI CPowW fun i j => .int (i ^ j.toNat)) := opI fun _ _ _ _ _ _ _ hc q => PyProof.Rows.pow_int hc.1 hc.2 q
theorem bits_lt {i : Int} {n : Nat} (h : i.natAbs < 2 ^ n) : Builtin.Int.intBits i ≤ n := by
  unfold Builtin.Int.intBits
  split
  · omega
  · rename_i c
    have h0 : i.natAbs ≠ 0 := by
      intro z
      simp [Int.natAbs_eq_zero.mp z] at c
    have := (Nat.log2_lt h0).mpr h
    omega
theorem cpow_ok {i : Int} {j n : Nat} (h : i.natAbs < 2 ^ n) (hn : n * j ≤ 134217728) : CPowW i (j : Int) := by
  refine ⟨by omega, ?_⟩
  have b := bits_lt h
  have e : ((2 : Int) ^ 27) = 134217728 := by decide
  rw [e]
  have : Builtin.Int.intBits i * j ≤ n * j := Nat.mul_le_mul_right _ b
  have z : ((Builtin.Int.intBits i * j : Nat) : Int) ≤ ((134217728 : Nat) : Int) := Int.ofNat_le.mpr (Nat.le_trans this hn)
  rw [Int.natCast_mul] at z
  exact z
def CTrue (_ _ : Int) : Prop := True
theorem sn_I0 {g : Int → Int → PyData} {gv : Int → Int → V} (hg : ∀ i j (G : Hp), Dp K G (gv i j) (g i j)) : SnO K (rI0 gv) (oI CTrue g) := sn_I (fun i j H Q _ q => ⟨i, j, rfl, rfl, q⟩) hg
theorem sn_IC {C : Int → Int → Prop} {g : Int → Int → PyData} {gv : Int → Int → V} (hg : ∀ i j (G : Hp), Dp K G (gv i j) (g i j)) : SnO K (rI C gv) (oI C g) := sn_I (fun i j H Q c q => ⟨i, j, rfl, rfl, c, q⟩) hg
def gAdd (i j : Int) : PyData := .int (i + j)
def gSub (i j : Int) : PyData := .int (i - j)
def gMul (i j : Int) : PyData := .int (i * j)
def gMod (i j : Int) : PyData := .int (i % j)
def gDiv (i j : Int) : PyData := .int (i / j)
def gPow (i j : Int) : PyData := .int (i ^ j.toNat)
def gLt (i j : Int) : PyData := .bool (decide (i < j))
def gLe (i j : Int) : PyData := .bool (decide (i ≤ j))
def gGt (i j : Int) : PyData := .bool (decide (j < i))
def gGe (i j : Int) : PyData := .bool (decide (j ≤ i))
abbrev CPos (_ j : Int) : Prop := 0 < j
theorem s_sub : SnO K (rI0 fun i j => .int (i - j)) (oI CTrue gSub) := sn_I0 fun _ _ _ => .int _
theorem s_mul : SnO K (rI CMul fun i j => .int (i * j)) (oI CMul gMul) := sn_IC fun _ _ _ => .int _
theorem s_mod : SnO K (rI (fun _ j => 0 < j) fun i j => .int (i % j)) (oI CPos gMod) := sn_IC fun _ _ _ => .int _
theorem s_div : SnO K (rI CDivW fun i j => .int (i / j)) (oI CDivW gDiv) := sn_IC fun _ _ _ => .int _
theorem s_pow : SnO K (rI CPowW fun i j => .int (i ^ j.toNat)) (oI CPowW gPow) := sn_IC fun _ _ _ => .int _
theorem s_lt : SnO K (rI0 fun i j => .bl (decide (i < j))) (oI CTrue gLt) := sn_I0 fun _ _ _ => .bl _
theorem s_le : SnO K (rI0 fun i j => .bl (decide (i ≤ j))) (oI CTrue gLe) := sn_I0 fun _ _ _ => .bl _
theorem s_gt : SnO K (rI0 fun i j => .bl (decide (j < i))) (oI CTrue gGt) := sn_I0 fun _ _ _ => .bl _
theorem s_ge : SnO K (rI0 fun i j => .bl (decide (j ≤ i))) (oI CTrue gGe) := sn_I0 fun _ _ _ => .bl _
/-! ### + -/
def rCatS (K : PySem.W.Frag) : R2 := fun x y H Q => ∃ l b xs zs, x = .ref l ∧ y = .ref b ∧ SqL K H l xs ∧ SqL K H b zs ∧ xs.length + zs.length ≤ sizeLine ∧ ∀ p, H p = none → Q (.ref p) (upd H p (.lst (xs ++ zs)))
theorem op_catS : OpR X (binaryOp .Add) (rCatS X.K) := by
  intro pins s σ H x y v u Q I rx ry h
  obtain ⟨l, b, xs, zs, rfl, rfl, hH, hB, hz, q⟩ := h
  cases rx
  cases ry
  obtain ⟨its, r, ⟨⟨cls, dd, data, sl⟩, n, ho, hc, _, hd⟩, _⟩ := I.list hH
  obtain ⟨its2, r2, ⟨⟨cls2, dd2, data2, sl2⟩, n2, ho2, hc2, _, hd2⟩, _⟩ := I.list hB
  simp only at hc hd hc2 hd2
  subst hc hd hc2 hd2
  have e : its.toArray ++ its2.toArray = (its ++ its2).toArray := by simp
  refine concat_meets ⟨_, ho, rfl⟩ ⟨_, ho2, rfl⟩ noFill_list_add seq_list_add PySem.F.slot_list_add PySem.F.entry_list_add (PySem.F.args_list_add_2 _ _) (list_addW l b its.toArray its2.toArray n n2 dd dd2 sl sl2 (by have := r.length; have := r2.length; simp; omega)) ⟨ho, ho2, ?_⟩
  rw [e]
  exact ⟨.ref _, _, I.lnew (t' := s.toks) (r.append r2) (by rw [List.length_append]; omega), rfl, q _ I.fresh⟩
def oCatL : OD := fun x y μ P => match rdL μ x, rdL μ y with
  | some xs, some ys => xs.length + ys.length ≤ sizeLine ∧ mkL (xs ++ ys) μ P
  | _, _ => False
theorem s_catL : SnO K (rCatS K) oCatL := fun s μ x y v u P r hx hy ho Q q => by
  unfold oCatL at ho
  split at ho
  · rename_i xs ys e1 e2
    obtain ⟨a, us, rfl, h1, t1⟩ := rdL_ok r hx e1
    obtain ⟨b, ws, rfl, h2, t2⟩ := rdL_ok r hy e2
    exact ⟨a, b, us, ws, rfl, rfl, h1, h2, by rw [← t1.len, ← t2.len]; exact ho.1, fun p hp => mkL_ok r (t1.append t2) ho.2 q hp⟩
  · exact ho.elim
def oCatT : OD := fun x y μ P => match rdT μ x, rdT μ y with
  | some xs, some ys => xs ≠ [] ∧ ys ≠ [] ∧ xs.length + ys.length ≤ sizeLine ∧ mkT (xs ++ ys) μ P
  | _, _ => False
theorem trs_ne {s : S} {ts : List T} {vs : List V} (h : TRs K s ts vs) (n : ts ≠ []) : vs ≠ [] := fun e => by
  subst e
  cases h
  exact n rfl
theorem s_catT : SnO K (rCatT K) oCatT := fun s μ x y v u P r hx hy ho Q q => by
  unfold oCatT at ho
  split at ho
  · rename_i xs ys e1 e2
    obtain ⟨a, us, rfl, h1, t1⟩ := rdT_ok r hx e1
    obtain ⟨b, ws, rfl, h2, t2⟩ := rdT_ok r hy e2
    exact ⟨a, b, us, ws, rfl, rfl, h1, h2, trs_ne t1 ho.1, by rw [← t1.len, ← t2.len]; exact ho.2.2.1, fun z => absurd z (trs_ne t2 ho.2.1), fun _ p hp => mkT_ok r (t1.append t2) ho.2.2.2 q hp⟩
  · exact ho.elim
def CFit (i j : Str) : Prop := i.length + j.length ≤ sizeLine
def gCat (i j : Str) : PyData := .str (i ++ j)
theorem s_addS : SnO K (fun x y H Q => ∃ i j, x = .str i ∧ y = .str j ∧ i.length + j.length ≤ sizeLine ∧ Q (.str (i ++ j)) H) (oS CFit gCat) := sn_S (fun i j H Q c q => ⟨i, j, rfl, rfl, c, q⟩) fun _ _ _ => .str _
def oAdd : OD := fun x y μ P => (oI CTrue gAdd x y μ P ∨ oS CFit gCat x y μ P) ∨ oCatL x y μ P ∨ oCatT x y μ P
abbrev rAddA (K : PySem.W.Frag) : R2 := fun x y H Q => ((rI0 fun i j => .int (i + j)) x y H Q ∨ (fun x y H Q => ∃ i j, x = .str i ∧ y = .str j ∧ i.length + j.length ≤ sizeLine ∧ Q (.str (i ++ j)) H) x y H Q) ∨ (rCatS K x y H Q ∨ rCatT K x y H Q)
theorem op_addA : OpR X (binaryOp .Add) (rAddA X.K) := (op_add.or op_add_str).or (op_catS.or op_catT)
theorem s_addA : SnO K (rAddA K) oAdd := ((sn_I0 fun _ _ _ => .int _).or s_addS).or (s_catL.or s_catT)
/-! ### == and !=, deep -/
def oEq : OD := fun x y μ P => match toD 8 μ x, toD 8 μ y with
  | some d, some e => SeqAt.shaped d = true ∧ SeqAt.shaped e = true ∧ P (.dat (.bool (PyData.eqv d e))) μ
  | _, _ => False
def oNe : OD := fun x y μ P => match toD 8 μ x, toD 8 μ y with
  | some d, some e => SeqAt.shaped d = true ∧ SeqAt.shaped e = true ∧ P (.dat (.bool (!PyData.eqv d e))) μ
  | _, _ => False
theorem s_eq : SnO K (rEqD K) oEq := fun s μ x y v u P r hx hy ho Q q => by
  unfold oEq at ho
  split at ho
  · rename_i d e e1 e2
    exact ⟨d, e, toD_ok r 8 hx e1, toD_ok r 8 hy e2, ho.1, ho.2.1, q s (.bl (PyData.eqv d e)) _ μ (Ext.refl s) r (mk_bool _) ho.2.2⟩
  · exact ho.elim
theorem s_ne : SnO K (rNeD K) oNe := fun s μ x y v u P r hx hy ho Q q => by
  unfold oNe at ho
  split at ho
  · rename_i d e e1 e2
    exact ⟨d, e, toD_ok r 8 hx e1, toD_ok r 8 hy e2, ho.1, ho.2.1, q s (.bl (!PyData.eqv d e)) _ μ (Ext.refl s) r (mk_bool _) ho.2.2⟩
  · exact ho.elim
/-! ### is None -/
def isNoneT (μ : Mu) (t : T) : Bool := match nm μ t with
  | .dat .none => true
  | _ => false
def oIsN : OD := fun x y μ P => y = .dat .none ∧ P (.dat (.bool (isNoneT μ x))) μ
def oNotN : OD := fun x y μ P => y = .dat .none ∧ P (.dat (.bool (!isNoneT μ x))) μ
theorem isNone_ok {s : S} {μ : Mu} {x : T} {v : V} (r : Rel K s μ) (h : TR K s x v) : isNoneT μ x = decide (v = .non) := by
  have h1 := nm_ok r h
  unfold isNoneT
  split
  · rename_i e
    rw [e] at h1
    rw [tr_none h1]
    rfl
  · rename_i hn
    symm
    apply decide_eq_false
    intro e
    subst e
    cases q : nm μ x with
    | dat d =>
      rw [q] at h1 hn
      have h1 : Dp K s.G .non d := h1
      cases h1
      exact hn rfl
    | loc n =>
      rw [q] at h1
      obtain ⟨a, _, z⟩ := h1
      cases z
    | exc a d n =>
      rw [q] at h1
      cases h1.1
    | fn f p =>
      rw [q] at h1
      cases h1.1
theorem s_isN : SnO K (fun x y H Q => y = .non ∧ Q (.bl (decide (x = .non))) H) oIsN := fun s μ x y v u P r hx hy ho Q q => by
  obtain ⟨rfl, ho⟩ := ho
  rw [isNone_ok r hx] at ho
  exact ⟨tr_none hy, q s _ _ μ (Ext.refl s) r (mk_bool _) ho⟩
theorem s_notN : SnO K (fun x y H Q => y = .non ∧ Q (.bl (!decide (x = .non))) H) oNotN := fun s μ x y v u P r hx hy ho Q q => by
  obtain ⟨rfl, ho⟩ := ho
  rw [isNone_ok r hx] at ho
  exact ⟨tr_none hy, q s _ _ μ (Ext.refl s) r (mk_bool _) ho⟩
/-! ### in: one sign in a text; flat values in a list or a tuple -/
def oInS (neg : Bool) : OD := fun x y μ P => match nm μ x, nm μ y with
  | .dat (.str c), .dat (.str z) => ∃ k, c = ⟨#[k]⟩ ∧ P (.dat (.bool (if neg then !decide (k ∈ z.cps.toList) else decide (k ∈ z.cps.toList)))) μ
  | _, _ => False
theorem s_inS : SnO K (fun x y H Q => ∃ (c : Nat) (z : Str), x = .str ⟨#[c]⟩ ∧ y = .str z ∧ Q (.bl (decide (c ∈ z.cps.toList))) H) (oInS false) := fun s μ x y v u P r hx hy ho Q q => by
  have h1 := nm_ok r hx
  have h2 := nm_ok r hy
  unfold oInS at ho
  split at ho
  · rename_i c z e1 e2
    rw [e1] at h1
    rw [e2] at h2
    obtain ⟨k, rfl, ho⟩ := ho
    exact ⟨k, z, tr_str h1, tr_str h2, q s _ _ μ (Ext.refl s) r (mk_bool _) ho⟩
  · exact ho.elim
theorem s_notInS : SnO K (fun x y H Q => ∃ (c : Nat) (z : Str), x = .str ⟨#[c]⟩ ∧ y = .str z ∧ Q (.bl (!decide (c ∈ z.cps.toList))) H) (oInS true) := fun s μ x y v u P r hx hy ho Q q => by
  have h1 := nm_ok r hx
  have h2 := nm_ok r hy
  unfold oInS at ho
  split at ho
  · rename_i c z e1 e2
    rw [e1] at h1
    rw [e2] at h2
    obtain ⟨k, rfl, ho⟩ := ho
    exact ⟨k, z, tr_str h1, tr_str h2, q s _ _ μ (Ext.refl s) r (mk_bool _) ho⟩
  · exact ho.elim
def flatD : PyData → Bool
  | .none => true
  | .bool _ => true
  | .int _ => true
  | .str _ => true
  | _ => false
def rdQ (μ : Mu) (t : T) : Option (List T) := match rdL μ t with
  | some ts => some ts
  | none => rdT μ t
/-- the flat data of a list or tuple -/
def oInQ (neg : Bool) : OD := fun x y μ P => match nm μ x, rdQ μ y with
  | .dat d, some ts => match allD μ ts with
    | some ds => flatD d = true ∧ ds.all flatD = true ∧ P (.dat (.bool (if neg then !ds.any (fun e => PyData.eqv e d) else ds.any (fun e => PyData.eqv e d)))) μ
    | none => False
  | _, _ => False
theorem flat_ok {G : Hp} {v : V} {d : PyData} (h : Dp K G v d) (f : flatD d = true) : flatV v = true := by
  cases h <;> first | rfl | (cases f)
theorem eq_ok {G : Hp} {v w : V} {d e : PyData} (h : Dp K G v d) (h' : Dp K G w e) (f : flatD d = true) (f' : flatD e = true) : eqV v w = PyData.eqv d e := by
  cases h <;> first | (cases f; done) | (cases h' <;> first | (cases f'; done) | rfl | (simp only [eqV, PyData.eqv]))
theorem all_flat {G : Hp} : ∀ {vs : List V} {ds : List PyData}, DpAll K G vs ds → ds.all flatD = true → vs.all flatV = true
  | _, _, .nil, _ => rfl
  | _, _, .cons h t, f => by
    rw [List.all_cons, Bool.and_eq_true] at f ⊢
    exact ⟨flat_ok h f.1, all_flat t f.2⟩
theorem any_eq {G : Hp} {w : V} {e : PyData} (h' : Dp K G w e) (f' : flatD e = true) : ∀ {vs : List V} {ds : List PyData}, DpAll K G vs ds → ds.all flatD = true → inV w vs = ds.any (fun d => PyData.eqv d e)
  | _, _, .nil, _ => rfl
  | _, _, .cons h t, f => by
    rw [List.all_cons, Bool.and_eq_true] at f
    have ih := any_eq h' f' t f.2
    unfold inV at ih ⊢
    rw [List.any_cons, List.any_cons, eq_ok h h' f.1 f', ih]
theorem rdQ_ok {s : S} {μ : Mu} {t : T} {v : V} {ts : List T} (r : Rel K s μ) (h : TR K s t v) (e : rdQ μ t = some ts) : ∃ a xs, v = .ref a ∧ (SqL K s.H a xs ∨ SqT K s.H a xs) ∧ TRs K s ts xs := by
  unfold rdQ at e
  split at e
  · rename_i ts' e'
    cases e
    obtain ⟨a, xs, h1, h2, h3⟩ := rdL_ok r h e'
    exact ⟨a, xs, h1, .inl h2, h3⟩
  · obtain ⟨a, xs, h1, h2, h3⟩ := rdT_ok r h e
    exact ⟨a, xs, h1, .inr h2, h3⟩
theorem s_inQ {neg : Bool} : SnO K (rIn K neg) (oInQ neg) := fun s μ x y v u P r hx hy ho Q q => by
  have h1 := nm_ok r hx
  unfold oInQ at ho
  split at ho
  · rename_i d ts e1 e2
    rw [e1] at h1
    obtain ⟨a, xs, rfl, h2, t2⟩ := rdQ_ok r hy e2
    split at ho
    · rename_i ds e3
      have dd := allD_ok r t2 e3
      obtain ⟨f1, f2, ho⟩ := ho
      refine ⟨a, xs, rfl, h2, flat_ok h1 f1, all_flat dd f2, ?_⟩
      rw [any_eq h1 f1 dd f2]
      exact q s _ _ μ (Ext.refl s) r (mk_bool _) ho
    · exact ho.elim
  · exact ho.elim
abbrev rInA (K : PySem.W.Frag) : R2 := fun x y H Q => (∃ (c : Nat) (z : Str), x = .str ⟨#[c]⟩ ∧ y = .str z ∧ Q (.bl (decide (c ∈ z.cps.toList))) H) ∨ rIn K false x y H Q
abbrev rNotInA (K : PySem.W.Frag) : R2 := fun x y H Q => (∃ (c : Nat) (z : Str), x = .str ⟨#[c]⟩ ∧ y = .str z ∧ Q (.bl (!decide (c ∈ z.cps.toList))) H) ∨ rIn K true x y H Q
theorem op_inA : OpR X (compareOp .In) (rInA X.K) := op_in_sign.or op_in_seq
theorem op_notInA : OpR X (compareOp .NotIn) (rNotInA X.K) := op_notIn_sign.or op_notIn_seq
def oIn : OD := fun x y μ P => oInS false x y μ P ∨ oInQ false x y μ P
def oNotIn : OD := fun x y μ P => oInS true x y μ P ∨ oInQ true x y μ P
theorem s_inA : SnO K (rInA K) oIn := s_inS.or s_inQ
theorem s_notInA : SnO K (rNotInA K) oNotIn := s_notInS.or s_inQ
/-! ### subscripts -/
def oIxQ : OD := fun x y μ P => match rdQ μ x, nm μ y with
  | some ts, .dat (.int i) => ∃ t, atI ts i = some t ∧ P t μ
  | _, _ => False
def oIxS : OD := fun x y μ P => match nm μ x, nm μ y with
  | .dat (.str z), .dat (.int i) => z.length ≤ sizeLine ∧ ∃ c, atI z.cps.toList i = some c ∧ P (.dat (.str ⟨#[c]⟩)) μ
  | _, _ => False
def oIx : OD := fun x y μ P => oIxQ x y μ P ∨ oIxS x y μ P
theorem atI_tr {s : S} {ts : List T} {vs : List V} {i : Int} {t : T} (h : TRs K s ts vs) (e : atI ts i = some t) : ∃ v, atI vs i = some v ∧ TR K s t v := by
  unfold atI at e ⊢
  rw [← h.len]
  cases q : ixN ts.length i with
  | none => rw [q] at e; cases e
  | some j =>
    rw [q] at e
    exact TRs.get h e
theorem s_ix : SnO K (rIx K) oIx := fun s μ x y v u P r hx hy ho Q q => by
  have h2 := nm_ok r hy
  rcases ho with ho | ho
  · unfold oIxQ at ho
    split at ho
    · rename_i ts i e1 e2
      rw [e2] at h2
      obtain ⟨t, ei, hp⟩ := ho
      obtain ⟨a, xs, rfl, h3, t3⟩ := rdQ_ok r hx e1
      obtain ⟨w, ew, tw⟩ := atI_tr t3 ei
      rcases h3 with h3 | h3
      · exact .inl ⟨a, xs, i, w, rfl, tr_int h2, h3, ew, q s w t μ (Ext.refl s) r tw hp⟩
      · exact .inr (.inl ⟨a, xs, i, w, rfl, tr_int h2, h3, ew, q s w t μ (Ext.refl s) r tw hp⟩)
    · exact ho.elim
  · have h1 := nm_ok r hx
    unfold oIxS at ho
    split at ho
    · rename_i z i e1 e2
      rw [e1] at h1
      rw [e2] at h2
      obtain ⟨hz, c, ec, hp⟩ := ho
      exact .inr (.inr ⟨z, i, c, tr_str h1, tr_int h2, hz, ec, q s _ _ μ (Ext.refl s) r (mk_str _) hp⟩)
    · exact ho.elim
/-! ### slices -/
abbrev WpO := En → Mu → (Option Int → Mu → Prop) → KX → Prop
def SnPart (K : PySem.W.Frag) (W : WX) (to : TO) (w : WpO) : Prop :=
  ∀ (s : S) (μ : Mu) (env : En) (σ : St) (P : Option Int → Mu → Prop) (PX : KX), Rel K s μ → EnR K s env σ → w env μ P PX → Thr K W σ s PX →
    ∀ Q : Option Int → Hp → Prop, (∀ s' o μ', Ext s s' → Rel K s' μ' → P o μ' → Q o s'.H) → to σ s.H Q
structure JO (X : Cx) (W : WX) (e : Option Expr) (w : WpO) : Prop where
  ex : ∃ to, PO X e to ∧ SnPart X.K W to w
def wNoPart : WpO := fun _ μ P _ => P none μ
def wPart (w : WpE) : WpO := fun env μ P PX => w env μ (fun t μ1 => match nm μ1 t with
  | .dat (.int i) => P (some i) μ1
  | _ => False) PX
theorem jo_none {W : WX} : JO X W none wNoPart := ⟨_, po_none, fun s μ env σ P PX r en h th Q q => q s none μ (Ext.refl s) r h⟩
theorem jo_some {W : WX} {e : Expr} {w : WpE} (h : JE X W e w) : JO X W (some e) (wPart w) := by
  obtain ⟨_, p, sn⟩ := h
  refine ⟨_, po_some p, fun s μ env σ P PX r en h th Q q => ?_⟩
  refine sn s μ env σ _ PX r en h th _ fun s1 v t μ1 e1 r1 t1 h1 => ?_
  have t2 := nm_ok r1 t1
  split at h1
  · rename_i i ei
    rw [ei] at t2
    exact ⟨i, tr_int t2, q s1 _ μ1 e1 r1 h1⟩
  · exact h1.elim
def cutT {α : Type} (xs : List α) (lo hi : Option Int) : List α := (xs.drop (HT.sIx xs.length 0 lo)).take (HT.sIx xs.length xs.length hi - HT.sIx xs.length 0 lo)
abbrev SD := T → Option Int → Option Int → Mu → KT → Prop
def SnSl (K : PySem.W.Frag) (r : V → Option Int → Option Int → Hp → VK → Prop) (o : SD) : Prop := ∀ (s : S) (μ : Mu) (x : T) (v : V) (lo hi : Option Int) (P : KT), Rel K s μ → TR K s x v → o x lo hi μ P →
  ∀ Q : VK, (∀ s' w t μ', Ext s s' → Rel K s' μ' → TR K s' t w → P t μ' → Q w s'.H) → r v lo hi s.H Q
def oSl : SD := fun x lo hi μ P => match nm μ x with
  | .dat (.str z) => z.length ≤ sizeLine ∧ P (.dat (.str (cutS z lo hi))) μ
  | t => match rdL μ t with
    | some ts => mkL (cutT ts lo hi) μ P
    | none => match rdT μ t with
      | some ts => ¬ (HT.sIx ts.length 0 lo = 0 ∧ HT.sIx ts.length ts.length hi = ts.length) ∧ mkT (cutT ts lo hi) μ P
      | none => False
abbrev rSlA (K : PySem.W.Frag) : V → Option Int → Option Int → Hp → VK → Prop := fun x lo hi H Q => rSlS x lo hi H Q ∨ (fun x lo hi H Q => rSlL K x lo hi H Q ∨ rSlT K x lo hi H Q) x lo hi H Q
theorem sl_A : SlR X (rSlA X.K) := sl_str.or (sl_list.or sl_tup)
theorem cut_tr {s : S} {ts : List T} {vs : List V} {lo hi : Option Int} (h : TRs K s ts vs) : TRs K s (cutT ts lo hi) (cutV vs lo hi) := by
  unfold cutT cutV
  rw [h.len]
  exact (h.drop _).take _
theorem s_sl : SnSl K (rSlA K) oSl := fun s μ x v lo hi P r hx ho Q q => by
  have h1 := nm_ok r hx
  unfold oSl at ho
  split at ho
  · rename_i z e
    rw [e] at h1
    exact .inl ⟨z, tr_str h1, ho.1, q s _ _ μ (Ext.refl s) r (mk_str _) ho.2⟩
  · split at ho
    · rename_i ts e
      obtain ⟨a, xs, rfl, h2, t2⟩ := rdL_ok r h1 e
      exact .inr (.inl ⟨a, xs, rfl, h2, fun p hp => mkL_ok r (cut_tr t2) ho q hp⟩)
    · split at ho
      · rename_i ts e
        obtain ⟨a, xs, rfl, h2, t2⟩ := rdT_ok r h1 e
        exact .inr (.inr ⟨a, xs, rfl, h2, by rw [← t2.len]; exact ho.1, fun p hp => mkT_ok r (cut_tr t2) ho.2 q hp⟩)
      · exact ho.elim
def wSl (o : SD) (w : WpE) (wl wh : WpO) : WpE := fun env μ P PX => w env μ (fun x μ1 => wl env μ1 (fun l μ2 => wh env μ2 (fun h μ3 => o x l h μ3 P) PX) PX) PX
theorem je_slice {W : WX} {e : Expr} {lo hi : Option Expr} {pos p2 : Pos} {w : WpE} {wl wh : WpO} (he : JE X W e w) (hl : JO X W lo wl) (hu : JO X W hi wh) : JE X W (.Subscript e (.Slice lo hi none p2) pos) (wSl oSl w wl wh) := by
  obtain ⟨_, p, sn⟩ := he
  obtain ⟨_, pl, sl⟩ := hl
  obtain ⟨_, pu, su⟩ := hu
  refine ⟨_, pe_slice sl_A p pl pu, fun s μ env σ P PX r en h th Q q => ?_⟩
  refine sn s μ env σ _ PX r en h th _ fun s1 v x μ1 e1 r1 x1 h1 => ?_
  refine sl s1 μ1 env σ _ PX r1 (en.up e1) h1 (th.up e1) _ fun s2 l μ2 e2 r2 h2 => ?_
  refine su s2 μ2 env σ _ PX r2 (en.up (e1.trans e2)) h2 (th.up (e1.trans e2)) _ fun s3 u μ3 e3 r3 h3 => ?_
  exact s_sl s3 μ3 x v l u P r3 (x1.up (e2.trans e3)) h3 Q fun s4 w t μ4 e4 r4 t4 h4 => q s4 w t μ4 (((e1.trans e2).trans e3).trans e4) r4 t4 h4
/-! ### built-in functions -/
def lenT (μ : Mu) (t : T) : Option Nat := match nm μ t with
  | .dat (.str z) => if z.length ≤ sizeLine then some z.length else none
  | t' => (rdQ μ t').map List.length
def cLen : CD := fun ts μ P => match ts with
  | [t] => match lenT μ t with
    | some n => P (.dat (.int n)) μ
    | none => False
  | _ => False
abbrev rLenA (K : PySem.W.Frag) : List V → Hp → VK → Prop := fun xs H Q => (∃ p ys, xs = [.ref p] ∧ (SqL K H p ys ∨ SqT K H p ys) ∧ Q (.int ys.length) H) ∨ (∃ z, xs = [.str z] ∧ z.length ≤ sizeLine ∧ Q (.int z.length) H)
theorem call_lenA : CallR X (.builtin "len") (rLenA X.K) := call_len_seq.or call_len_str
theorem trs1 {s : S} {t : T} {vs : List V} (h : TRs K s [t] vs) : ∃ v, vs = [v] ∧ TR K s t v := by
  cases h with
  | cons r q => cases q; exact ⟨_, rfl, r⟩
theorem trs2 {s : S} {t u : T} {vs : List V} (h : TRs K s [t, u] vs) : ∃ v w, vs = [v, w] ∧ TR K s t v ∧ TR K s u w := by
  cases h with
  | cons r q =>
    obtain ⟨w, rfl, hw⟩ := trs1 q
    exact ⟨_, w, rfl, r, hw⟩
theorem c_len : SnC K (rLenA K) cLen := fun s μ ts vs P r ht hc Q q => by
  unfold cLen at hc
  split at hc
  · rename_i t
    obtain ⟨v, rfl, hv⟩ := trs1 ht
    have h1 := nm_ok r hv
    split at hc
    · rename_i n en
      unfold lenT at en
      split at en
      · rename_i z ez
        rw [ez] at h1
        split at en
        · rename_i hz
          cases en
          exact .inr ⟨z, by rw [tr_str h1], hz, q s _ _ μ (Ext.refl s) r (mk_int _) hc⟩
        · cases en
      · cases e : rdQ μ (nm μ t) with
        | none => rw [e] at en; cases en
        | some ts' =>
          rw [e] at en
          cases en
          obtain ⟨a, xs, rfl, h2, t2⟩ := rdQ_ok r h1 e
          refine .inl ⟨a, xs, rfl, h2, ?_⟩
          rw [← t2.len]
          exact q s _ _ μ (Ext.refl s) r (mk_int _) hc
    · exact hc.elim
  · exact hc.elim
/-- a function of one int -/
def cI1 (g : Int → PyData) : CD := fun ts μ P => match ts with
  | [t] => match nm μ t with
    | .dat (.int i) => P (.dat (g i)) μ
    | _ => False
  | _ => False
theorem c_I1 {g : Int → PyData} {gv : Int → V} {r : List V → Hp → VK → Prop} (hr : ∀ i H Q, Q (gv i) H → r [.int i] H Q) (hg : ∀ i (G : Hp), Dp K G (gv i) (g i)) : SnC K r (cI1 g) := fun s μ ts vs P rl ht hc Q q => by
  unfold cI1 at hc
  split at hc
  · obtain ⟨v, rfl, hv⟩ := trs1 ht
    have h1 := nm_ok rl hv
    split at hc
    · rename_i i e
      rw [e] at h1
      rw [tr_int h1]
      exact hr i _ Q (q s (gv i) (.dat (g i)) μ (Ext.refl s) rl (hg i s.G) hc)
    · exact hc.elim
  · exact hc.elim
def cI2 (g : Int → Int → PyData) : CD := fun ts μ P => match ts with
  | [t, u] => match nm μ t, nm μ u with
    | .dat (.int i), .dat (.int j) => P (.dat (g i j)) μ
    | _, _ => False
  | _ => False
theorem c_I2 {g : Int → Int → PyData} {gv : Int → Int → V} {r : List V → Hp → VK → Prop} (hr : ∀ i j H Q, Q (gv i j) H → r [.int i, .int j] H Q) (hg : ∀ i j (G : Hp), Dp K G (gv i j) (g i j)) : SnC K r (cI2 g) := fun s μ ts vs P rl ht hc Q q => by
  unfold cI2 at hc
  split at hc
  · obtain ⟨v, w, rfl, hv, hw⟩ := trs2 ht
    have h1 := nm_ok rl hv
    have h2 := nm_ok rl hw
    split at hc
    · rename_i i j e e'
      rw [e] at h1
      rw [e'] at h2
      rw [tr_int h1, tr_int h2]
      exact hr i j _ Q (q s (gv i j) (.dat (g i j)) μ (Ext.refl s) rl (hg i j s.G) hc)
    · exact hc.elim
  · exact hc.elim
def gMax (i j : Int) : PyData := .int (if j > i then j else i)
def gMin (i j : Int) : PyData := .int (if j < i then j else i)
def gAbs (i : Int) : PyData := .int (if i < 0 then -i else i)
theorem c_max : SnC K (fun xs H Q => ∃ i j, xs = [.int i, .int j] ∧ Q (.int (if j > i then j else i)) H) (cI2 gMax) := c_I2 (gv := fun i j => .int (if j > i then j else i)) (fun i j H Q q => ⟨i, j, rfl, q⟩) fun _ _ _ => .int _
theorem c_min : SnC K (fun xs H Q => ∃ i j, xs = [.int i, .int j] ∧ Q (.int (if j < i then j else i)) H) (cI2 gMin) := c_I2 (gv := fun i j => .int (if j < i then j else i)) (fun i j H Q q => ⟨i, j, rfl, q⟩) fun _ _ _ => .int _
theorem c_abs : SnC K (fun xs H Q => ∃ i, xs = [.int i] ∧ Q (.int (if i < 0 then -i else i)) H) (cI1 gAbs) := c_I1 (gv := fun i => .int (if i < 0 then -i else i)) (fun i H Q q => ⟨i, rfl, q⟩) fun _ _ => .int _
/-- int(x) of an int or a truth -/
def cInt : CD := fun ts μ P => match ts with
  | [t] => match nm μ t with
    | .dat (.int i) => P (.dat (.int i)) μ
    | .dat (.bool b) => P (.dat (.int (if b then 1 else 0))) μ
    | _ => False
  | _ => False
theorem c_int : SnC K (fun xs H Q => (∃ i, xs = [.int i] ∧ Q (.int i) H) ∨ ∃ k, xs = [.bl k] ∧ Q (.int (if k then 1 else 0)) H) cInt := fun s μ ts vs P rl ht hc Q q => by
  unfold cInt at hc
  split at hc
  · obtain ⟨v, rfl, hv⟩ := trs1 ht
    have h1 := nm_ok rl hv
    split at hc
    · rename_i i e
      rw [e] at h1
      exact .inl ⟨i, by rw [tr_int h1], q s _ _ μ (Ext.refl s) rl (mk_int _) hc⟩
    · rename_i b e
      rw [e] at h1
      exact .inr ⟨b, by rw [tr_bool h1], q s _ _ μ (Ext.refl s) rl (mk_int _) hc⟩
    · exact hc.elim
  · exact hc.elim
/-- list(x), tuple(x) -/
def cList : CD := fun ts μ P => match ts with
  | [t] => match rdQ μ t with
    | some xs => mkL xs μ P
    | none => False
  | _ => False
theorem c_list : SnC K (fun xs H Q => ∃ p ys, xs = [.ref p] ∧ (SqL K H p ys ∨ SqT K H p ys) ∧ ∀ l, H l = none → Q (.ref l) (upd H l (.lst ys))) cList := fun s μ ts vs P rl ht hc Q q => by
  unfold cList at hc
  split at hc
  · obtain ⟨v, rfl, hv⟩ := trs1 ht
    split at hc
    · rename_i xs e
      obtain ⟨a, ys, rfl, h2, t2⟩ := rdQ_ok rl hv e
      exact ⟨a, ys, rfl, h2, fun p hp => mkL_ok rl t2 hc q hp⟩
    · exact hc.elim
  · exact hc.elim
/-! repr -/
structure Shw (d : PyData) : Prop where
  sb : d.showable = true
  nd : d.hasDict = false
  dp : d.depth ≤ 60
  ln : d.shown.length ≤ sizeLine
def rRepr (K : PySem.W.Frag) : List V → Hp → VK → Prop := fun xs H Q => ∃ x d, xs = [x] ∧ L2.Dp K H x d ∧ Shw d ∧ Q (.str d.shown) H
theorem call_reprD (hg : X.A.guards = some []) (hu : X.A.units + 64 < cLine) : CallR X (.builtin "repr") (rRepr X.K) := by
  intro pins s σ H xs us Q I r h
  obtain ⟨x, d, rfl, hd, sh, q⟩ := h
  obtain ⟨u, rfl, ru⟩ := vals1 r
  have k := sh.sb
  have l := sh.ln
  cases hd with
  | non =>
    cases ru
    simp only [PyData.shown] at q
    exact PySem.P.repr_of_none ⟨.str _, H, I.tok _, ⟨_, rfl⟩, q⟩
  | bl b =>
    cases ru
    simp only [PyData.shown] at q
    exact PySem.P.repr_of_bool ⟨.str _, H, I.tok _, ⟨_, rfl⟩, q⟩
  | int i =>
    obtain ⟨t, rfl⟩ := ru
    simp only [PyData.shown] at q
    have k : decide (i.natAbs.log2 < 1920) = true := by simpa [PyData.showable] using k
    exact PySem.P.repr_of_int (of_decide_eq_true k) ⟨.str _, H, I.tok _, ⟨_, rfl⟩, q⟩
  | str z =>
    obtain ⟨t, rfl⟩ := ru
    simp only [PyData.shown] at q l
    exact PySem.P.repr_of_str ⟨.str _, H, I.tok _, ⟨_, rfl⟩, q⟩ l
  | lst h1 h2 =>
    rename_i a ys ds
    cases ru
    obtain ⟨as, rd⟩ := L2.Dp.reads I (.list ds) (.ref a) (.ref a) (.lst h1 h2) rfl
    refine repr_of_reads' (h₀ := s.heap) rd sh.sb (fun z => by rw [sh.nd] at z; cases z) hg (by have := sh.dp; omega) (fun _ _ e => e) (fun h' u tk kp => ?_) sh.ln
    exact ⟨.str _, H, I.kept (t' := tk) kp, ⟨_, rfl⟩, q⟩
  | tup h1 h2 =>
    rename_i a ys ds
    cases ru
    obtain ⟨as, rd⟩ := L2.Dp.reads I (.tuple ds) (.ref a) (.ref a) (.tup h1 h2) rfl
    refine repr_of_reads' (h₀ := s.heap) rd sh.sb (fun z => by rw [sh.nd] at z; cases z) hg (by have := sh.dp; omega) (fun _ _ e => e) (fun h' u tk kp => ?_) sh.ln
    exact ⟨.str _, H, I.kept (t' := tk) kp, ⟨_, rfl⟩, q⟩
def cRepr : CD := fun ts μ P => match ts with
  | [t] => match toD 8 μ t with
    | some d => Shw d ∧ P (.dat (.str d.shown)) μ
    | none => False
  | _ => False
theorem c_repr : SnC K (rRepr K) cRepr := fun s μ ts vs P rl ht hc Q q => by
  unfold cRepr at hc
  split at hc
  · obtain ⟨v, rfl, hv⟩ := trs1 ht
    split at hc
    · rename_i d e
      exact ⟨v, d, rfl, toD_ok rl 8 hv e, hc.1, q s _ _ μ (Ext.refl s) rl (mk_str _) hc.2⟩
    · exact hc.elim
  · exact hc.elim
/-! ### methods of built-in types -/
abbrev MD := T → List T → Mu → KT → Prop
def SnM (K : PySem.W.Frag) (r : V → List V → Hp → VK → Prop) (m : MD) : Prop := ∀ (s : S) (μ : Mu) (x : T) (ts : List T) (v : V) (vs : List V) (P : KT), Rel K s μ → TR K s x v → TRs K s ts vs → m x ts μ P →
  ∀ Q : VK, (∀ s' w t μ', Ext s s' → Rel K s' μ' → TR K s' t w → P t μ' → Q w s'.H) → r v vs s.H Q
def tyT (T' : String) (μ : Mu) (t : T) : Prop := match nm μ t with
  | .dat (.str _) => T' = "str"
  | t' => T' = "list" ∧ (rdL μ t').isSome = true
theorem tyT_ok {s : S} {μ : Mu} {t : T} {v : V} {T' : String} (r : Rel K s μ) (h : TR K s t v) (e : tyT T' μ t) : tyV K T' v s.H := by
  have h1 := nm_ok r h
  unfold tyT at e
  split at e
  · rename_i z ez
    rw [ez] at h1
    rw [tr_str h1]
    exact e
  · obtain ⟨e1, e2⟩ := e
    obtain ⟨ts, ht⟩ := Option.isSome_iff_exists.mp e2
    obtain ⟨a, xs, rfl, h2, _⟩ := rdL_ok r h1 ht
    exact .inl ⟨e1, xs, h2⟩
def wBM (T' : String) (m : MD) (wo : WpE) (wa : WpA) : WpE := fun env μ P PX => wo env μ (fun t μ1 => tyT T' μ1 t ∧ wa env μ1 (fun ts μ2 => m t ts μ2 P) PX) PX
section
variable {W : WX} {o e : Expr} {es : List Expr} {wo : WpE} {wa : WpA} {name : Str} {apos cpos : Pos} {T' id : String} {r : V → List V → Hp → VK → Prop} {m : MD}
theorem je_bm (pa : PlainAttrs T') (slot : Slot T' name id) (hty : typeOf (.builtin id) = pure (.type "method_descriptor")) (hm : MtR X id r) (sm : SnM X.K r m) (ho : JE X W o wo) (ha : JA X W (e :: es) wa)
    (hbase : attributeBase o name X.env (eval o X.env) = eval o X.env := by rfl)
    (hfew : ((backTo cpos (starEach (e :: es) X.env)).all (fun x => !x.1) && (backToKw cpos (keywordEach [] X.env)).all (fun x => x.1.isSome)
      && decide ((e :: es).length + ([] : List Keyword).length + (if ([] : List Keyword).isEmpty then 0 else 1) < 30)) = true := by rfl)
    (hline : (apos.endLine == cpos.line) = true := by rfl) (hs : starEach (e :: es) X.env = (false, eval e X.env) :: starEach es X.env := by rfl) (hplain : (backTo cpos (starEach es X.env)).any (·.1) = false := by rfl) :
    JE X W (.Call (.Attribute o name apos) (e :: es) [] cpos) (wBM T' m wo wa) := by
  obtain ⟨_, po, so⟩ := ho
  obtain ⟨_, pa', sa⟩ := ha
  refine ⟨_, pe_bm pa slot hty hm po pa' hbase hfew hline hs hplain, fun s μ env σ P PX rl en hw th Q q => ?_⟩
  refine so s μ env σ _ PX rl en hw th _ fun s1 v x μ1 e1 r1 x1 h1 => ⟨tyT_ok r1 x1 h1.1, ?_⟩
  refine sa s1 μ1 env σ _ PX r1 (en.up e1) h1.2 (th.up e1) _ fun s2 vs ts μ2 e2 r2 t2 h2 => ?_
  exact sm s2 μ2 x ts v vs P r2 (x1.up e2) t2 h2 Q fun s3 w t μ3 e3 r3 t3 h3 => q s3 w t μ3 ((e1.trans e2).trans e3) r3 t3 h3
theorem je_bm0 (pa : PlainAttrs T') (slot : Slot T' name id) (hty : typeOf (.builtin id) = pure (.type "method_descriptor")) (hm : MtR X id r) (sm : SnM X.K r m) (ho : JE X W o wo)
    (hbase : attributeBase o name X.env (eval o X.env) = eval o X.env := by rfl) (hline : (apos.endLine == cpos.line) = true := by rfl) : JE X W (.Call (.Attribute o name apos) [] [] cpos) (wBM T' m wo wNil) := by
  obtain ⟨_, po, so⟩ := ho
  refine ⟨_, pe_bm0 pa slot hty hm po hbase hline, fun s μ env σ P PX rl en hw th Q q => ?_⟩
  refine so s μ env σ _ PX rl en hw th _ fun s1 v x μ1 e1 r1 x1 h1 => ⟨tyT_ok r1 x1 h1.1, ?_⟩
  exact sm s1 μ1 x [] v [] P r1 x1 .nil h1.2 Q fun s3 w t μ3 e3 r3 t3 h3 => q s3 w t μ3 (e1.trans e3) r3 t3 h3
end
/-- a live list, changed -/
def onL (x : T) (μ : Mu) (k : Nat → List T → Prop) : Prop := match x with
  | .loc n => match μ[n]? with
    | some (.lst xs) => k n xs
    | _ => False
  | _ => False
theorem onL_ok {s : S} {μ : Mu} {x : T} {v : V} {k : Nat → List T → Prop} (r : Rel K s μ) (h : TR K s x v) (e : onL x μ k) :
    ∃ n xs a ys, x = .loc n ∧ μ[n]? = some (.lst xs) ∧ s.ι[n]? = some a ∧ v = .ref a ∧ s.G a = none ∧ s.H a = some (.lst ys) ∧ TRs K s xs ys ∧ k n xs := by
  cases x with
  | dat d => exact e.elim
  | exc a d n => exact e.elim
  | fn f p => exact e.elim
  | loc n =>
    have e : (match μ[n]? with
      | some (.lst xs) => k n xs
      | _ => False) := e
    obtain ⟨a, h1, h2⟩ := h
    split at e
    · rename_i xs ex
      obtain ⟨g, ys, h3, h4⟩ := r.ob n a _ h1 ex
      exact ⟨n, xs, a, ys, rfl, ex, h1, h2, g, h3, h4, e⟩
    · exact e.elim
theorem trs_put {s : S} {a : Addr} {ho : HO} {ts : List T} {vs : List V} (h : TRs K s ts vs) : TRs K ⟨s.ι, s.G, upd s.H a ho⟩ ts vs := Paired.mapP h fun x _ z => by
  cases x with
  | dat d => exact z
  | loc n => exact z
  | exc a d n => exact z
  | fn f p => exact z
/-- the list at n becomes zs -/
theorem lst_put {s : S} {μ : Mu} {n : Nat} {a : Addr} {zs : List T} {ws : List V} (r : Rel K s μ) (hi : s.ι[n]? = some a) (hg : s.G a = none) (h : TRs K s zs ws) :
    Rel K ⟨s.ι, s.G, upd s.H a (.lst ws)⟩ (μ.set n (.lst zs)) ∧ Ext s ⟨s.ι, s.G, upd s.H a (.lst ws)⟩ := r.put hi hg ⟨hg, ws, upd_same, trs_put h⟩ nk_lst
def mAppend : MD := fun x ts μ P => match ts with
  | [y] => onL x μ fun n xs => xs.length < sizeLine ∧ P (.dat .none) (μ.set n (.lst (xs ++ [y])))
  | _ => False
theorem m_append : SnM K rAppend mAppend := fun s μ x ts v vs P r hx ht hm Q q => by
  unfold mAppend at hm
  split at hm
  · rename_i y
    obtain ⟨w, rfl, hw⟩ := trs1 ht
    obtain ⟨n, xs, a, ys, rfl, ex, hi, rfl, hg, hh, tl, hl, hp⟩ := onL_ok r hx hm
    obtain ⟨r2, e2⟩ := lst_put r hi hg (tl.append (.cons hw .nil))
    exact ⟨a, ys, w, rfl, rfl, hh, by rw [← tl.len]; exact hl, q _ .non _ _ e2 r2 mk_none hp⟩
  · exact hm.elim
def mReverse : MD := fun x ts μ P => ts = [] ∧ onL x μ fun n xs => P (.dat .none) (μ.set n (.lst xs.reverse))
theorem m_reverse : SnM K rReverse mReverse := fun s μ x ts v vs P r hx ht hm Q q => by
  obtain ⟨rfl, hm⟩ := hm
  cases ht
  obtain ⟨n, xs, a, ys, rfl, ex, hi, rfl, hg, hh, tl, hp⟩ := onL_ok r hx hm
  obtain ⟨r2, e2⟩ := lst_put r hi hg tl.reverse
  exact ⟨a, ys, rfl, rfl, hh, q _ .non _ _ e2 r2 mk_none hp⟩
/-- xs[i] = y -/
def oSetL : OS := fun x i y μ P => match nm μ i with
  | .dat (.int k) => onL x μ fun n xs => ∃ j, ixN xs.length k = some j ∧ P (μ.set n (.lst (xs.set j y)))
  | _ => False
theorem s_setL : SnSet K rSetL oSetL := fun s μ x i y v u w P r hx hi hy ho Q q => by
  have h2 := nm_ok r hi
  unfold oSetL at ho
  split at ho
  · rename_i k ek
    rw [ek] at h2
    obtain ⟨n, xs, a, ys, rfl, ex, hi, rfl, hg, hh, tl, j, ej, hp⟩ := onL_ok r hx ho
    obtain ⟨r2, e2⟩ := lst_put r hi hg (TRs.set hy j tl)
    exact ⟨a, ys, k, j, rfl, tr_int h2, hh, by rw [← tl.len]; exact ej, q _ _ e2 r2 hp⟩
  · exact ho.elim
/-- sep.join(texts) -/
def strsOf : List PyData → Option (List Str)
  | [] => some []
  | .str z :: r => (strsOf r).map (z :: ·)
  | _ :: _ => none
end
end DL
/-! DL8: errors of the program's own, raised, caught, looked at. -/
namespace PySem.W
open PySem PySem.Spec PySem.Calls PyProof.Rows
end PySem.W
namespace DL
open PySem PySem.Spec L2
open PyProof.Rows (envOfC)
/-! ### making and raising -/
/-- the facts of an error's class at C, its __init__ at fI -/
structure ErrC (K : PySem.W.Frag) (C fI : Addr) : Prop where
  ox : OexC K C
  iC : PySem.W.findIn K (.ref C) "__init__" = some (some (.ref fI))
  tI : PySem.W.typeIn K (.ref fI) = some (.type "function")
  nv : PySem.W.findIn K (.ref C) "value" = some none
  ec : ExcC K C
def spErrK (K : PySem.W.Frag) (fI : Addr) : Sp := fun vs H Q _ => ∃ (a C : Addr) (v : V), vs = [.ref a, v] ∧ ErrC K C fI ∧ H a = some (exo a C none) ∧
  ∀ dx, H dx = none → dx ≠ a → Q .non (upd (upd H dx (exd dx [(("value" : Str), v)])) a (exo a C (some dx)))
section
variable {X : Cx} {W : WX} {C fI : Addr} {fd : FuncData} {ps : List Str} {k : Nat} {x : Str} {p pos pos' : Pos} {e : Expr} {es : List Expr} {wa : WpA}
def wRaise (C : Addr) (wa : WpA) : WpS := fun D env μ => wa env μ (fun ts μ1 => match ts with
  | [t] => D.ex C t env μ1
  | _ => False) (D.px env)
theorem js_raise (hc : X.calm = true) (tk : Takes X W) (T : ErrC X.K C fI) (F : FnOk X.prog X.w X.K X.mg X.base CX0 k fI fd ps (spErrK X.K fI)) (hr : Room (k + 1) X.A) (hb : Binds X.K fd ps []) (hm : X.mg x = some (.ref C)) (ha : JA X W [e] wa) (hg : Gl X x := by rfl)
    (hdb : (x == ("__debug__" : Str)) = false := by decide) (he : starEach (e :: []) X.env = (false, eval e X.env) :: starEach [] X.env := by rfl) (hpl : (backTo pos (starEach [] X.env)).any (·.1) = false := by rfl) :
    JS X W (.Raise (some (.Call (.Name x p) [e] [] pos)) none pos') (wRaise C wa) := by
  obtain ⟨_, pa, sa⟩ := ha
  refine ⟨_, ps_raise hc tk (pmk_oex T.ox T.iC T.tI F hr hb .nil pass0 hg hm pa hdb he hpl), fun s μ env σ D E r en h l => ?_⟩
  refine sa s μ env σ _ _ r en h (l.thr en) _ fun s1 vs ts μ1 e1 r1 t1 h1 => ?_
  split at h1
  · rename_i t
    obtain ⟨v, rfl, tv⟩ := trs1 t1
    refine ⟨(by simp), fun a ha => ⟨a, C, v, rfl, T, upd_same, fun dx hdx hne => ⟨rfl, dx, [(("value" : Str), v)], upd_same, ?_, ?_, ?_⟩⟩⟩
    · rw [upd_ne hne, upd_same]
    · rw [upd_ne hne] at hdx
      exact hdx
    · have hdx' : s1.H dx = none := by rw [upd_ne hne] at hdx; exact hdx
      have ee : upd (del (upd (upd (upd s1.H a (exo a C none)) dx (exd dx [(("value" : Str), v)])) a (exo a C (some dx))) a) dx (.xd [(("value" : Str), v)]) = upd s1.H dx (.xd [(("value" : Str), v)]) := by
        funext b
        by_cases b1 : b = dx
        · subst b1; rw [upd_same, upd_same]
        · rw [upd_ne b1, upd_ne b1]
          by_cases b2 : b = a
          · subst b2; rw [del_same]; exact ha.symm
          · rw [del_ne b2, upd_ne b2, upd_ne b1, upd_ne b2]
      rw [ee]
      obtain ⟨r2, e2, x2⟩ := side_new (o := .xd [(("value" : Str), v)]) r1 hdx' nk_xd
      have o0 : s.H dx = none := by
        rcases e1.none_back hdx' with z | z
        · exact z
        · exact absurd hdx' (r1.thr dx (by obtain ⟨l, q⟩ := e1.io; rw [q]; exact List.mem_append_left _ z))
      exact l.ex ⟨s1.ι, s1.G, upd s1.H dx (.xd [(("value" : Str), v)])⟩ μ1 env σ C dx v t (e1.trans e2) r2 (en.up (e1.trans e2)) ⟨upd_same, o0, x2.g, x2.n⟩ (tv.up e2) h1
  · exact h1.elim
end
/-! ### try .. except C as n -/
def upS (K : PySem.W.Frag) (W : WX) (w : WpS) : TS := fun E σ H => ∃ (s : S) (μ : Mu) (env : En) (D : DE), s.H = H ∧ Rel K s μ ∧ EnR K s env σ ∧ w D env μ ∧ Lnk K W s D E
theorem JB.up {X : Cx} {W : WX} {st : List Stmt} {w : WpS} (h : JB X W st w) : PSs X st (upS X.K W w) := by
  obtain ⟨_, p, sn⟩ := h
  refine ⟨fun pins s σ H D I h => p.run pins s σ H D I ?_⟩
  obtain ⟨s, μ, env, D, rfl, r, en, hw, l⟩ := h
  exact sn s μ env σ D _ r en hw l
/-! ### a caught error -/
end DL
/-! DL9: facts of a text's top by names, read by one hook. -/
namespace DL
open PySem PySem.Spec L2
open He (ga ma eqO eqO_ok ba asD frG frG_in)
/-! ### where a def stands -/
inductive At where
  | glo (x : Str)
  | met (x m : Str)
  | prp (x m : Str)
def prpOf (K : PySem.W.Frag) (p : Addr) : Addr := match PySem.W.recIn K p "property" with
  | some (.ref g :: _) => g
  | _ => 0
def At.ad (K : PySem.W.Frag) : At → Addr
  | .glo x => ga K x
  | .met x m => ma K (ga K x) m
  | .prp x m => prpOf K (ma K (ga K x) m)
structure Df where
  at_ : At
  name : Str
  qual : Str
  st : Stmt
  /-- the values of its defaults -/
  dfl : List V := []
abbrev FnV : Type := Option (Str × Str × Arguments × FuncBody × Scope × Addr × List (Str × Addr) × Addr)
def fnN (K : PySem.W.Frag) (p : At) : FnV := match K.lookup (p.ad K) with
  | some ⟨_, _, .func fd, _⟩ => some (fd.name, fd.qualname, fd.params, fd.body, fd.scope, fd.globals, fd.closure, fd.builtins)
  | _ => none
def Df.val (d : Df) : FnV := some (d.name, d.qual, defArgs d.st, .stmts (defBody d.st), defScope d.st, mainGlobals, [], builtinsNs)
def Df.ok (K : PySem.W.Frag) (d : Df) : Bool := PySem.W.keepIn K (.ref (d.at_.ad K)) && (match K.lookup (d.at_.ad K) with
  | some ⟨_, _, .func fd, _⟩ => PySem.W.codeIn K fd.code d.qual && He.dflB K fd.defaults d.dfl
  | _ => false)
/-- a def as it stands behind the top, dfl its defaults -/
abbrev FunV (K : PySem.W.Frag) (d : Df) (fd : FuncData) : Prop := FunD K d.name d.qual (defArgs d.st) (defBody d.st) (defScope d.st) d.dfl [] (d.at_.ad K) fd
theorem Df.funV {K : PySem.W.Frag} {d : Df} (e : fnN K d.at_ = d.val) (c : d.ok K = true) : ∃ fd, FunV K d fd := by
  obtain ⟨kp, c2⟩ := ba c
  unfold fnN at e
  cases q : K.lookup (d.at_.ad K) with
  | none =>
    rw [q] at c2
    cases c2
  | some o =>
    obtain ⟨oc, od, dt, osl⟩ := o
    rw [q] at c2 e
    cases dt with
    | func fd =>
      obtain ⟨n1, n2, n3, n4, n5, n6, n7, n8, n9, n10, n11, n12, n13, n14, n15⟩ := fd
      have e2 : (some (n1, n2, n3, n4, n5, n6, n7, n15) : FnV) = some (d.name, d.qual, defArgs d.st, .stmts (defBody d.st), defScope d.st, mainGlobals, [], builtinsNs) := e
      simp only [Option.some.injEq, Prod.mk.injEq] at e2
      obtain ⟨h1, h2, h3, h4, h5, h6, h7, h8⟩ := e2
      subst h1 h2 h3 h4 h5 h6 h7 h8
      have c3 : (PySem.W.codeIn K n13 d.qual && He.dflB K n8 d.dfl) = true := c2
      obtain ⟨k1, k2⟩ := ba c3
      exact ⟨_, ⟨oc, od, n8, n9, n10, n11, n12, n13, n14, osl, rfl, q, k1, He.dflB_ok k2, .inl rfl⟩, kp⟩
    | _ => cases c2
theorem FunV.fun_ {K : PySem.W.Frag} {d : Df} {fd : FuncData} (hd : d.dfl = []) (F : FunV K d fd) : Fun K d.name d.qual d.st (d.at_.ad K) fd := by
  obtain ⟨oc, od, dV, kV, doc, pm, an, cdv, ct, osl, e, lk, cd, D, _⟩ := F.ex
  rw [hd] at D
  rcases D with ⟨_, e2⟩ | ⟨e2, _⟩
  · subst e2
    exact ⟨⟨oc, od, kV, doc, pm, an, cdv, ct, osl, e, lk, cd⟩, F.kp⟩
  · exact absurd rfl e2
/-! ### the hook -/
abbrev AlN : Type := Bool × List FnV
def obsN (fa : List (PySem.W.Frag → Bool)) (fn : List Df) (K : PySem.W.Frag) : AlN := ((fa.all fun f => f K) && fn.all fun d => d.ok K, fn.map fun d => fnN K d.at_)
def valN (fn : List Df) : AlN := (true, fn.map Df.val)
def SaysN (fa : List (PySem.W.Frag → Bool)) (fn : List Df) (K : PySem.W.Frag) : Prop := obsN fa fn K = valN fn
/-- all tables that K leaves out are empty -/
def tabsEB (g : Addr → Option Obj) (K : PySem.W.Frag) : Bool := (tabs K).all fun p => match g p.1 with
  | some o => He.emptyTab o
  | none => false
def TabsE (K : PySem.W.Frag) (h : Heap) : Prop := ∀ p ∈ tabs K, h.get? p.1 = some { cls := .none, data := .fields #[] }
theorem tabsEB_ok {h : Heap} {K : PySem.W.Frag} (e : tabsEB h.get? K = true) : TabsE K h := fun p hp => by
  have q := List.all_eq_true.mp e p hp
  cases z : h.get? p.1 with
  | none => rw [z] at q; cases q
  | some o => rw [z] at q; rw [He.emptyTab_eq q]
def obsNG (n : Nat) (fa : List (PySem.W.Frag → Bool)) (fn : List Df) (g : Addr → Option Obj) : AlN := ((obsN fa fn (He.frT g (asD g n))).1 && tabsEB g (He.frT g (asD g n)), (obsN fa fn (He.frT g (asD g n))).2)
def hookN (n : Nat) (fa : List (PySem.W.Frag → Bool)) (fn : List Df) : PySem.W.Hook where
  α := AlN
  obs := fun s => obsNG n fa fn s.heap.get?
  val := fun _ => valN fn
  says := fun _ h => ∃ K : PySem.W.Frag, K.In h ∧ SaysN fa fn K ∧ TabsE K h
  of := fun _ h e => by
    have e1 : ((obsN fa fn (He.frT h.heap.get? (asD h.heap.get? n))).1 && tabsEB h.heap.get? (He.frT h.heap.get? (asD h.heap.get? n))) = true := congrArg (fun z : AlN => z.1) e
    have e2 : (obsN fa fn (He.frT h.heap.get? (asD h.heap.get? n))).2 = fn.map Df.val := congrArg (fun z : AlN => z.2) e
    obtain ⟨h1, h2⟩ := ba e1
    exact ⟨_, He.frT_in, Prod.ext h1 e2, tabsEB_ok h2⟩
  keeps := fun _ _ _ ⟨K, hK, c, t⟩ k => ⟨K, PySem.W.Frag.In.keeps hK k, c, fun p hp => k _ _ (t p hp)⟩
theorem obsNG_eq {n : Nat} {fa : List (PySem.W.Frag → Bool)} {fn : List Df} {g : Addr → Option Obj} {s : Shared} (h : ∀ a, g a = s.heap.get? a) : obsNG n fa fn g = (hookN n fa fn).obs s := by
  have e : g = s.heap.get? := funext h
  rw [e] <;> rfl
section
variable {fa : List (PySem.W.Frag → Bool)} {fn : List Df} {K : PySem.W.Frag}
theorem SaysN.fact (c : SaysN fa fn K) (i : Nat) {f : PySem.W.Frag → Bool} (h : fa[i]? = some f := by rfl) : f K = true := by
  have c1 := (ba (show ((fa.all fun f => f K) && fn.all fun d => d.ok K) = true from congrArg (fun z : AlN => z.1) c)).1
  exact List.all_eq_true.mp c1 f (List.mem_of_getElem? h)
theorem SaysN.defV (c : SaysN fa fn K) (i : Nat) {d : Df} (h : fn[i]? = some d := by rfl) : ∃ fd, FunV K d fd := by
  have c2 := (ba (show ((fa.all fun f => f K) && fn.all fun d => d.ok K) = true from congrArg (fun z : AlN => z.1) c)).2
  have e : fn.map (fun d => fnN K d.at_) = fn.map Df.val := congrArg (fun z : AlN => z.2) c
  have e2 : (fn.map fun d => fnN K d.at_)[i]? = (fn.map Df.val)[i]? := by rw [e]
  rw [List.getElem?_map, List.getElem?_map, h] at e2
  exact Df.funV (Option.some.inj e2) (List.all_eq_true.mp c2 d (List.mem_of_getElem? h))
theorem SaysN.def_ (c : SaysN fa fn K) (i : Nat) {d : Df} (h : fn[i]? = some d := by rfl) (hd : d.dfl = [] := by rfl) : ∃ fd, Fun K d.name d.qual d.st (d.at_.ad K) fd := by
  obtain ⟨fd, F⟩ := c.defV i h
  exact ⟨fd, FunV.fun_ hd F⟩
end
/-! ### facts -/
section
variable {K : PySem.W.Frag}
/-- the class x is an error of the text over ValueError, its attribute value free -/
def oexB (K : PySem.W.Frag) (C : Addr) : Bool := match K.lookup C with
  | some ⟨.type "type", _, .cls cd, sl⟩ => (match cd.mro, sl.toList with
    | .ref C' :: bm, [_, _, _, _, some (.builtin n), _] => C' == C && (n == "ValueError.__new__" && (!cd.hasDel && (cd.hasDict && PySem.HandSPX.refsVE bm)))
    | _, _ => false)
  | _ => false
def errB (x : Str) (K : PySem.W.Frag) : Bool := oexB K (ga K x) && (eqO (PySem.W.findIn K (.ref (ga K x)) "__setattr__") (some (some (.builtin "object.__setattr__"))) && (decide (PySem.W.subIn K (.ref (ga K x)) (.type "BaseException") = some true) && (decide (PySem.W.typeIn K (.ref (ga K x)) = some (.type "type")) && (PySem.W.keepIn K (.ref (ga K x)) &&
  (eqO (PySem.W.findIn K (.ref (ga K x)) "__init__") (some (some (.ref (ma K (ga K x) "__init__")))) && (decide (PySem.W.typeIn K (.ref (ma K (ga K x) "__init__")) = some (.type "function")) && (eqO (PySem.W.findIn K (.ref (ga K x)) "value") (some none) &&
  (eqO (PySem.W.findIn K (.ref (ga K x)) "__getattribute__") (some (some (.builtin "BaseException.__getattribute__"))) && (eqO (PySem.W.findIn K (.ref (ga K x)) "__getattr__") (some none) && (PySem.W.hasDictIn K (ga K x) && (eqO (PySem.W.findIn K (.ref (ga K x)) "__class__") (some (some (.builtin "object.__class__"))) &&
  (eqO (PySem.W.specialIn K (.builtin "object.__class__") "__get__") (some (some (.builtin "getset_descriptor.__get__"))) && (decide (PySem.W.takesIn K (.builtin "object.__class__") = some true) && decide (PySem.W.mroIn K (ga K x) (.type "object") = some true))))))))))))))
theorem oex_obj {C : Addr} (q : oexB K C = true) : ∃ nm q' N bs bm sn sub ab col dd k0 k1 k2 k3 k5, K.lookup C = some (excClassObj nm q' C N bs bm true sn sub ab col dd k0 k1 k2 k3 k5 "ValueError.__new__") ∧ PySem.HandSPX.refsVE bm = true := by
  unfold oexB at q
  split at q
  · rename_i dd cd sl ho
    split at q
    · rename_i C' bm k0 k1 k2 k3 n k5 hm hs
      simp only [Bool.and_eq_true, beq_iff_eq, Bool.not_eq_true'] at q
      obtain ⟨rfl, rfl, hdel, hdict, ht⟩ := q
      obtain ⟨nm, bs, mro, ns, qn, hd, sn, sub, ab, col, del⟩ := cd
      dsimp only at hm hdel hdict
      subst hm hdel hdict
      have hsl : sl = #[k0, k1, k2, k3, some (.builtin "ValueError.__new__"), k5] := by
        obtain ⟨l⟩ := sl
        simp only at hs
        rw [hs]
      subst hsl
      exact ⟨nm, qn, ns, bs, bm, sn, sub, ab, col, dd, k0, k1, k2, k3, k5, ho, ht⟩
    · cases q
  · cases q
theorem err_ok {x : Str} (c : errB x K = true) : ErrC K (ga K x) (ma K (ga K x) "__init__") := by
  obtain ⟨h1, c⟩ := ba c
  obtain ⟨h2, c⟩ := ba c
  obtain ⟨h3, c⟩ := ba c
  obtain ⟨h4, c⟩ := ba c
  obtain ⟨h5, c⟩ := ba c
  obtain ⟨h6, c⟩ := ba c
  obtain ⟨h7, c⟩ := ba c
  obtain ⟨h8, c⟩ := ba c
  obtain ⟨h9, c⟩ := ba c
  obtain ⟨h10, c⟩ := ba c
  obtain ⟨h11, c⟩ := ba c
  obtain ⟨h12, c⟩ := ba c
  obtain ⟨h13, c⟩ := ba c
  obtain ⟨h14, c⟩ := ba c
  exact ⟨⟨oex_obj h1, eqO_ok h2, of_decide_eq_true h3, of_decide_eq_true h4, h5⟩, eqO_ok h6, of_decide_eq_true h7, eqO_ok h8, ⟨eqO_ok h9, eqO_ok h10, of_decide_eq_true h3, h11, eqO_ok h12, eqO_ok h13, of_decide_eq_true h14, of_decide_eq_true c⟩⟩
/-- ValueError.__init__ is a built-in one's -/
def veiB (K : PySem.W.Frag) : Bool := match PySem.W.findCls K (.type "ValueError") (.type "type") "__init__" with
  | some (.val (.builtin n)) => n == "ValueError.__init__"
  | _ => false
theorem vei_ok (c : veiB K = true) : PySem.W.findCls K (.type "ValueError") (.type "type") "__init__" = some (.val (.builtin "ValueError.__init__")) := by
  unfold veiB at c
  split at c
  · rename_i n e
    rw [e, eq_of_beq c]
  · cases c
end
/-! ### a def that can be called by its name -/
structure Def1 (P : Program) (w : World) (K : PySem.W.Frag) (mg : Str → Option Value) (base : Heap) (x : Str) (k : Nat) (dsp : DSp) : Prop where
  ex : ∃ (f : Addr) (fd : FuncData) (ps : List Str), FnG P w K mg base k f fd ps (toSp K dsp) ∧ mg x = some (.ref f) ∧ PySem.W.keepIn K (.ref f) = true ∧ Binds K fd ps []
theorem je_def {X : Cx} {W : WX} {k k' : Nat} {dsp : DSp} {x : Str} {p pos : Pos} {e : Expr} {es : List Expr} {wa : WpA} (B : Def1 X.prog X.w X.K X.mg X.base x k dsp) (hr : Room k' X.A) (hgd : X.A.guards = some []) (tk : Takes X W)
    (ha : JA X W (e :: es) wa) (hk : k ≤ k' := by decide) (hg : Gl X x := by rfl) (hdb : (x == ("__debug__" : Str)) = false := by decide) (he : starEach (e :: es) X.env = (false, eval e X.env) :: starEach es X.env := by rfl) (hpl : (backTo pos (starEach es X.env)).any (·.1) = false := by rfl) :
    JE X W (.Call (.Name x p) (e :: es) [] pos) (wCall dsp wa) := by
  obtain ⟨f, fd, ps, F, hm, hkp, hb⟩ := B.ex
  exact je_call F (hr.mono hk) hgd hm hkp hb tk ha hg hdb he hpl
/-- binding positional arguments -/
theorem binds_of {K : PySem.W.Frag} {x qual : Str} {st : Stmt} {f : Addr} {fd : FuncData} {ps : List Str} (F : Fun K x qual st f fd)
    (h : ∀ (kV doc pm : Value) (an : Option Addr) (cdv ct : Value) (us : List Value), us.length = ps.length → bindArgs (PySem.W.fnOf x qual (defArgs st) (defBody st) (defScope st) .none kV doc pm an cdv ct) ⟨us, []⟩ = pure (ps.zip us)) : Binds K fd ps [] := F.binds h
end DL
namespace PySem
end PySem
namespace DL
open PySem PySem.Spec L2
open PyProof.Rows (envOfC)
section
variable {K : PySem.W.Frag} {x qual : Str} {st : Stmt} {f : Addr} {fd : FuncData} {ps : List Str}
/-- binding with keywords: n places, then the names ks -/
theorem kb_of (F : Fun K x qual st f fd) (n : Nat) (ks : List Str) (g : {α : Type} → List α → List α → List α) (hrel : ∀ {vs zs : List V} {us ws : List Value}, Vals vs us → Vals zs ws → Vals (g vs zs) (g us ws))
    (h : ∀ (kV doc pm : Value) (an : Option Addr) (cdv ct : Value) (us ws : List Value), us.length = n → ws.length = ks.length → bindArgs (PySem.W.fnOf x qual (defArgs st) (defBody st) (defScope st) .none kV doc pm an cdv ct) ⟨us, ks.zip ws⟩ = pure (ps.zip (g us ws))) :
    KBn K fd ps n ks (fun us ws => g us ws) (fun vs zs => g vs zs) := by
  obtain ⟨oc, od, kV, doc, pm, an, cdv, ct, osl, rfl, lk, hcd⟩ := F.ex
  exact ⟨fun s us ws X l1 l2 => BindsTo.of_looks fun M => by
    rw [h kV doc pm an cdv ct us ws l1 l2]
    exact .now, fun r1 r2 => hrel r1 r2⟩
end
/-! ### more expressions -/
abbrev UD := T → Mu → KT → Prop
def SnU (K : PySem.W.Frag) (r : V → Hp → VK → Prop) (o : UD) : Prop := ∀ (s : S) (μ : Mu) (x : T) (v : V) (P : KT), Rel K s μ → TR K s x v → o x μ P →
  ∀ Q : VK, (∀ s' w t μ', Ext s s' → Rel K s' μ' → TR K s' t w → P t μ' → Q w s'.H) → r v s.H Q
def wUn (o : UD) (w : WpE) : WpE := fun env μ P PX => w env μ (fun x μ1 => o x μ1 P) PX
def uI (g : Int → PyData) : UD := fun x μ P => match nm μ x with
  | .dat (.int i) => P (.dat (g i)) μ
  | _ => False
def gNeg (i : Int) : PyData := .int (-i)
section
variable {X : Cx} {W : WX} {K : PySem.W.Frag} {a b e : Expr} {es : List Expr} {pos p : Pos} {wa wb w : WpE} {x : Str}
theorem j_un {op : UnaryOp} {r : V → Hp → VK → Prop} {o : UD} (ho : UnR X (unaryOp op) r) (so : SnU X.K r o) (ha : JE X W a wa) : JE X W (.UnaryOp op a pos) (wUn o wa) := by
  obtain ⟨_, pa, sa⟩ := ha
  refine ⟨_, pe_un ho pa, fun s μ env σ P PX r en h th Q q => ?_⟩
  exact sa s μ env σ _ PX r en h th _ fun s1 v t μ1 e1 r1 t1 h1 => so s1 μ1 t v P r1 t1 h1 Q fun s2 w u μ2 e2 r2 t2 h2 => q s2 w u μ2 (e1.trans e2) r2 t2 h2
theorem s_neg : SnU K (rU fun i => .int (-i)) (uI gNeg) := fun s μ x v P r h c Q q => by
  have h' := nm_ok r h
  unfold uI at c
  split at c
  · rename_i i e
    rw [e] at h'
    have := tr_int h'
    subst this
    exact ⟨i, rfl, q s _ _ μ (Ext.refl s) r (mk_int _) c⟩
  · exact c.elim
theorem j_globS' {y : Str} (hm : ∃ tk, X.mg x = some (.str y tk)) (hg : Gl X x := by rfl) (hd : (x == ("__debug__" : Str)) = false := by decide) : JE X W (.Name x pos) (wC (.str y)) := by
  obtain ⟨tk, hm⟩ := hm
  exact j_globS hm hg hd
theorem j_globI' {i : Int} (hm : ∃ tk, X.mg x = some (.int i tk)) (hg : Gl X x := by rfl) (hd : (x == ("__debug__" : Str)) = false := by decide) : JE X W (.Name x pos) (wC (.int i)) := by
  obtain ⟨tk, hm⟩ := hm
  exact j_globI hm hg hd
end
/-! ### == of texts and ints, without a look at their signs -/
section
variable {X : Cx} {K : PySem.W.Frag}
def oEqS (neg : Bool) : OD := fun x y μ P => match nm μ x, nm μ y with
  | .dat (.str i), .dat (.str j) => P (.dat (.bool (if neg then !decide (i = j) else decide (i = j)))) μ
  | .dat (.int i), .dat (.int j) => P (.dat (.bool (if neg then !decide (i = j) else decide (i = j)))) μ
  | _, _ => False
theorem s_eqS : SnO K rEq (oEqS false) := fun s μ x y v u P r hx hy ho Q q => by
  unfold oEqS at ho
  have h1 := nm_ok r hx
  have h2 := nm_ok r hy
  split at ho
  · rename_i i j e1 e2
    rw [e1] at h1; rw [e2] at h2
    cases tr_str h1; cases tr_str h2
    refine ⟨rfl, q s _ _ μ (Ext.refl s) r ?_ ho⟩
    have e : decide (V.str i = V.str j) = decide (i = j) := by simp
    rw [e]
    exact mk_bool _
  · rename_i i j e1 e2
    rw [e1] at h1; rw [e2] at h2
    cases tr_int h1; cases tr_int h2
    refine ⟨rfl, q s _ _ μ (Ext.refl s) r ?_ ho⟩
    have e : decide (V.int i = V.int j) = decide (i = j) := by simp
    rw [e]
    exact mk_bool _
  · exact ho.elim
theorem s_neS : SnO K rNe (oEqS true) := fun s μ x y v u P r hx hy ho Q q => by
  unfold oEqS at ho
  have h1 := nm_ok r hx
  have h2 := nm_ok r hy
  split at ho
  · rename_i i j e1 e2
    rw [e1] at h1; rw [e2] at h2
    cases tr_str h1; cases tr_str h2
    refine ⟨rfl, q s _ _ μ (Ext.refl s) r ?_ ho⟩
    have e : decide (V.str i = V.str j) = decide (i = j) := by simp
    rw [e]
    exact mk_bool _
  · rename_i i j e1 e2
    rw [e1] at h1; rw [e2] at h2
    cases tr_int h1; cases tr_int h2
    refine ⟨rfl, q s _ _ μ (Ext.refl s) r ?_ ho⟩
    have e : decide (V.int i = V.int j) = decide (i = j) := by simp
    rw [e]
    exact mk_bool _
  · exact ho.elim
def oEqA : OD := fun x y μ P => oEqS false x y μ P ∨ oEq x y μ P
def oNeA : OD := fun x y μ P => oEqS true x y μ P ∨ oNe x y μ P
theorem op_eqA (hu : X.A.units + 64 < cLine) : OpR X (compareOp .Eq) (fun x y H Q => rEq x y H Q ∨ rEqD X.K x y H Q) := op_eq.or (op_eqD hu)
theorem op_neA (hu : X.A.units + 64 < cLine) : OpR X (compareOp .NotEq) (fun x y H Q => rNe x y H Q ∨ rNeD X.K x y H Q) := op_ne.or (op_neD hu)
theorem s_eqA : SnO K (fun x y H Q => rEq x y H Q ∨ rEqD K x y H Q) oEqA := s_eqS.or s_eq
theorem s_neA : SnO K (fun x y H Q => rNe x y H Q ∨ rNeD K x y H Q) oNeA := s_neS.or s_ne
theorem oEqA_int {i j : Int} {μ : Mu} {P : KT} (h : P (.dat (.bool (decide (i = j)))) μ) : oEqA (.dat (.int i)) (.dat (.int j)) μ P := .inl h
theorem oEqA_str {i j : Str} {μ : Mu} {P : KT} (h : P (.dat (.bool (decide (i = j)))) μ) : oEqA (.dat (.str i)) (.dat (.str j)) μ P := .inl h
theorem oNeA_str {i j : Str} {μ : Mu} {P : KT} (h : P (.dat (.bool (!decide (i = j)))) μ) : oNeA (.dat (.str i)) (.dat (.str j)) μ P := .inl h
theorem oEqA_int' (i j : Int) (μ : Mu) (P : KT) : oEqA (.dat (.int i)) (.dat (.int j)) μ P ↔ P (.dat (.bool (decide (i = j)))) μ := by
  refine ⟨fun h => ?_, oEqA_int⟩
  rcases h with h | h
  · exact h
  · unfold oEq at h
    rw [toD_dat, toD_dat] at h
    have e : PyData.eqv (.int i) (.int j) = decide (i = j) := by
      simp only [PyData.eqv]
      rw [Bool.eq_iff_iff]
      simp
    rw [← e]
    exact h.2.2
theorem eqv_str (i j : Str) : PyData.eqv (.str i) (.str j) = decide (i = j) := by
  simp only [PyData.eqv]
  rw [Bool.eq_iff_iff]
  simp
theorem oEqA_str' (i j : Str) (μ : Mu) (P : KT) : oEqA (.dat (.str i)) (.dat (.str j)) μ P ↔ P (.dat (.bool (decide (i = j)))) μ := by
  refine ⟨fun h => ?_, oEqA_str⟩
  rcases h with h | h
  · exact h
  · unfold oEq at h
    rw [toD_dat, toD_dat] at h
    rw [← eqv_str]
    exact h.2.2
theorem oNeA_str' (i j : Str) (μ : Mu) (P : KT) : oNeA (.dat (.str i)) (.dat (.str j)) μ P ↔ P (.dat (.bool (!decide (i = j)))) μ := by
  refine ⟨fun h => ?_, oNeA_str⟩
  rcases h with h | h
  · exact h
  · unfold oNe at h
    rw [toD_dat, toD_dat] at h
    rw [← eqv_str]
    exact h.2.2
end
end DL
/-! DL11: a law's end, the guards told; what views and ends come to; many small rules of the mathematics. -/
namespace DL
open PySem PySem.Spec PyProof.Rows L2
/-! ### the law's call -/
abbrev LawGood (s0 : Shared) : Result → Shared → Prop := fun r s2 => r = .ok (.ret (.bool true)) ∧ OldK s0.heap s2.heap ∧ s2.os = s0.os ∧ AllBare s2.gens
/-- where the tables stand -/
def tA (K : PySem.W.Frag) : List Addr := (tabs K).map (·.1)
theorem tA_mem {K : PySem.W.Frag} {b : Addr} (h : b ∈ tA K) : ∃ p ∈ tabs K, p.1 = b := by
  obtain ⟨p, hp, e⟩ := List.mem_map.mp h
  exact ⟨p, hp, e⟩
abbrev noTab : Obj := { cls := .none, data := .fields #[] }
theorem tA_code {K : PySem.W.Frag} {h : Heap} {b : Addr} (KX : K.In h) (m : b ∈ tA K) : isCodeTable h b := by
  obtain ⟨p, hp, rfl⟩ := tA_mem m
  obtain ⟨_, c, hc⟩ := tabs_mem hp
  obtain ⟨o, vs, _, _, _, _, _, _, _, e1, e2, e3, e4, _⟩ := PySem.W.codeHd_of_K KX hc
  exact ⟨c, o, vs, e1, e2, e3, e4⟩
theorem law_goG {P : Program} {w : World} {K : PySem.W.Frag} {mg mb : Str → Option Value} {k : Nat} {fa a : Addr} {fd : FuncData} {x : Str} {dsp : DSp} {s0 : Shared} {its : List Value}
    (KX : K.In s0.heap) (hns : s0.heap.Ns mainGlobals mg) (hb : s0.heap.Ns builtinsNs mb) (hbb : ∀ y : Str, y ≠ "__name__" → mb y = bootBuiltins y) (hlim : s0.heap.NoLimit) (hg : s0.gens = #[])
    (hT : TabsE K s0.heap) (oa : s0.heap.get? a = some { cls := .type "list", data := .seq its.toArray }) (lenI : its.length ≤ sizeLine) (hr : Room k callerA)
    (F : ∀ base : Heap, K.In base → base.Ns mainGlobals mg → FnG P w K mg base k fa fd [x] (toSp K dsp)) (hbind : ∀ (s : Shared) (u : Value), BindsTo s fd ⟨[u], []⟩ [(x, u)])
    (H : Hp) (hO : ∀ b, H b = none ∨ b ∈ tA K ∨ ∃ ob xs, H b = some (.frz ob (.lst xs))) (hH : ∀ b ∈ tA K, H b = some (.tbl #[])) (hok : HOk P w H s0.heap) (hA : ∀ b, H b ≠ none → b = a ∨ b ∈ tA K) (hK : H a ≠ none → K.lookup a = none)
    (hsp : toSp K dsp [.ref a] H (fun v _ => v = .bl true) fun _ _ _ => False) :
    codeAny (model P w) callerA (.call (.ref fa) ⟨[.ref a], []⟩) (LawGood s0) s0 := by
  have tE : ∀ b ∈ tA K, s0.heap.get? b = some noTab ∧ K.lookup b = none := fun b m => by
    obtain ⟨p, hp, rfl⟩ := tA_mem m
    exact ⟨hT p hp, (tabs_mem hp).1⟩
  have up : ∀ {b : Addr} {o : Obj}, s0.heap.get? b = some o → H b = none → (hidT s0.heap H).get? b = some o := fun e n => hidT_get e n
  have off : ∀ {b : Addr} {o : Obj} {es : Array DictEntry} {ep : Nat}, s0.heap.get? b = some o → o.data = .dict es ep → H b = none := fun {b o es ep} e dd => by
    rcases hq : H b with _ | u
    · rfl
    · rcases hA b (by rw [hq]; exact fun z => nomatch z) with eb | eb
      · subst eb
        have e3 := Option.some.inj (oa.symm.trans e)
        subst e3
        cases dd
      · have e3 := Option.some.inj ((tE b eb).1.symm.trans e)
        subst e3
        cases dd
  have ns2 : ∀ {b : Addr} {m : Str → Option Value}, s0.heap.Ns b m → (hidT s0.heap H).Ns b m := fun {b m} ⟨o, es, ep, e, dd, r⟩ => ⟨o, es, ep, up e (off e dd), dd, r⟩
  have kin : K.In (hidT s0.heap H) := fun b o e => up (KX b o e) (by
    rcases hq : H b with _ | u
    · rfl
    · rcases hA b (by rw [hq]; exact fun z => nomatch z) with eb | eb
      · subst eb
        have z := hK (by rw [hq]; exact fun z => nomatch z)
        rw [e] at z
        cases z
      · have z := (tE b eb).2
        rw [e] at z
        cases z)
  have hM : Mod K mg (hidT s0.heap H) := by
    obtain ⟨mc, h1, h2⟩ := hlim
    exact ⟨kin, ns2 hns, ⟨mb, ns2 hb, hbb⟩, mc, ns2 h1, h2⟩
  have none_in : ∀ b : Addr, b ∈ ([] : List Addr) → False := fun b z => by simp at z
  have e0 : Env0 P w K mg (hidT s0.heap H) callerA [] s0 H := ⟨rfl, hM, fun b o e => of_hidT e, Nat.le_of_eq (hidT_size _ _), trivial, fun b z => (none_in b z).elim, hok, .of_eq hg⟩
  refine codeAny_mono ((F _ kin (ns2 hns)).run callerA [] s0 H ⟨[.ref a], []⟩ [.ref a] [.ref a] _ _ hr rfl e0 (hbind s0 (.ref a)) (.cons rfl .nil) hsp) fun r s2 h => ?_
  cases r with
  | error e =>
    obtain ⟨b, B, H', cls, od, _, _, _, _, _, _, _, z⟩ := h
    exact z.elim
  | ok fl =>
    cases fl with
    | next => exact False.elim h
    | brk => exact False.elim h
    | cont => exact False.elim h
    | ret u =>
      obtain ⟨v, H', os, bare, un, hok2, rv, ev⟩ := h
      have ev : v = .bl true := ev
      subst ev
      obtain rfl : u = Value.bool true := rv
      have stays : ∀ b o, b ∉ tA K → s0.heap.get? b = some o → s2.heap.get? b = some o := fun b o nb e => by
        rcases hq : H b with _ | y
        · exact un.keep b o e hq (none_in b) (by simp)
        · rcases hO b with z | z | ⟨ob, xs, z⟩
          · rw [hq] at z
            cases z
          · exact absurd z nb
          · obtain ⟨e1, _⟩ := hok b _ z
            obtain ⟨e2, _⟩ := hok2 b _ (un.frzs b ob _ z)
            exact e2.trans (e1.symm.trans e)
      have grows : ∀ b, b ∈ tA K → ∃ vs, s2.heap.get? b = some ({ cls := .none, data := .fields vs } : Obj) := fun b m => by
        obtain ⟨vs, z⟩ := un.tbls b #[] (hH b m)
        exact ⟨_, hok2 b _ z⟩
      refine ⟨rfl, ⟨fun b o e => ?_, fun b o e => ?_⟩, os, bare⟩
      · by_cases m : b ∈ tA K
        · obtain ⟨vs, z⟩ := grows b m
          obtain rfl : o = noTab := Option.some.inj (e.symm.trans (tE b m).1)
          exact .inr (.inl ⟨tA_code KX m, rfl, #[], vs, rfl, by rw [Array.empty_append]; exact z⟩)
        · exact .inl (stays b o m e)
      · by_cases m : b ∈ tA K
        · obtain ⟨vs, z⟩ := grows b m
          exact ⟨_, z⟩
        · exact ⟨o, stays b o m e⟩
theorem ints_dp {K : PySem.W.Frag} {G : Hp} : ∀ ns : List Int, DpAll K G (ns.map V.int) (ns.map PyData.int)
  | [] => .nil
  | n :: ns => .cons (.int n) (ints_dp ns)
theorem law_callG {P : Program} {w : World} {K : PySem.W.Frag} {mg mb : Str → Option Value} {k : Nat} {fa a : Addr} {fd : FuncData} {x : Str} {dsp : DSp} {s0 : Shared} {its : List Value} {ns : List Int}
    (KX : K.In s0.heap) (hns : s0.heap.Ns mainGlobals mg) (hb : s0.heap.Ns builtinsNs mb) (hbb : ∀ y : Str, y ≠ "__name__" → mb y = bootBuiltins y) (hlim : s0.heap.NoLimit) (hg : s0.gens = #[])
    (hT : TabsE K s0.heap) (oa : s0.heap.get? a = some { cls := .type "list", data := .seq its.toArray }) (hi : IntsAre its ns) (hl : ns.length ≤ sizeLine) (hr : Room k callerA)
    (F : ∀ base : Heap, K.In base → base.Ns mainGlobals mg → FnG P w K mg base k fa fd [x] (toSp K dsp)) (hbind : ∀ (s : Shared) (u : Value), BindsTo s fd ⟨[u], []⟩ [(x, u)])
    (hD : ∀ P : KT, P (.dat (.bool true)) [] → dsp [.dat (.list (ns.map PyData.int))] [] P (fun _ _ _ => False)) :
    codeAny (model P w) callerA (.call (.ref fa) ⟨[.ref a], []⟩) (LawGood s0) s0 := by
  have rv := vals_ints hi
  have lenV := hi.length
  have tE : ∀ b ∈ tA K, s0.heap.get? b = some noTab := fun b m => by
    obtain ⟨p, hp, rfl⟩ := tA_mem m
    exact hT p hp
  have at_ : a ∉ tA K := fun m => by
    have e := (tE a m).symm.trans oa
    cases e
  have go : ∀ H G : Hp, (∀ b o, G b = some o → H b = some o ∧ ∀ ps, o ≠ .tbl ps) → (∀ b ∈ tA K, H b = some (.tbl #[])) → Dp K G (.ref a) (.list (ns.map PyData.int)) → toSp K dsp [.ref a] H (fun v _ => v = .bl true) fun _ _ _ => False := fun H G sg hH hd =>
    ⟨⟨[], G, H⟩, [.dat (.list (ns.map PyData.int))], [], fun t _ => t = .dat (.bool true), _, rfl, ⟨fun b o e => (sg b o e).1, List.nodup_nil, rfl, fun n b o z => (by simp at z), fun b z => (by simp at z), fun b o z => (by simp at z),
      ⟨fun b ps e => (sg b _ e).2 ps rfl, fun p hp => NdefX.TabN.nil (hH p.1 (List.mem_map.mpr ⟨p, hp, rfl⟩))⟩⟩, .cons hd .nil, hD _ rfl,
      fun s2 v t m _ _ tr e => (by subst e; exact tr_bool tr), fun s2 C d v t m _ _ _ _ z => z⟩
  obtain ⟨Ht, hHt⟩ : ∃ Ht : Hp → Hp, Ht = fun G b => if b ∈ tA K then some (.tbl #[]) else G b := ⟨_, rfl⟩
  have t1 : ∀ {G : Hp} {b : Addr}, b ∈ tA K → Ht G b = some (.tbl #[]) := fun {G b} m => by rw [hHt]; exact if_pos m
  have t2 : ∀ {G : Hp} {b : Addr}, b ∉ tA K → Ht G b = G b := fun {G b} m => by rw [hHt]; exact if_neg m
  -- G: the script alone
  have fin : ∀ G : Hp, (∀ b o, G b = some o → b = a ∧ ∃ ob xs, o = .frz ob (.lst xs)) → Dp K G (.ref a) (.list (ns.map PyData.int)) → (∀ ob xs, G a = some (.frz ob (.lst xs)) → ∀ H, ObjOk P w H s0.heap a (.frz ob (.lst xs))) → (G a ≠ none → K.lookup a = none) → codeAny (model P w) callerA (.call (.ref fa) ⟨[.ref a], []⟩) (LawGood s0) s0 := fun G hG hd hok hK => by
    have gs : ∀ b o, G b = some o → Ht G b = some o ∧ ∀ ps, o ≠ .tbl ps := fun b o e => by
      obtain ⟨rfl, ob, xs, rfl⟩ := hG b o e
      exact ⟨by rw [t2 at_]; exact e, fun _ z => nomatch z⟩
    refine law_goG KX hns hb hbb hlim hg hT oa (by rw [lenV]; exact hl) hr F hbind (Ht G) (fun b => ?_) (fun b m => t1 m) (fun b u z => ?_) (fun b z => ?_) (fun z => hK (by rw [t2 at_] at z; exact z)) (go (Ht G) G gs (fun b m => t1 m) hd)
    · by_cases m : b ∈ tA K
      · exact .inr (.inl m)
      · rw [t2 m]
        rcases hq : G b with _ | o
        · exact .inl rfl
        · obtain ⟨_, ob, xs, rfl⟩ := hG b o hq
          exact .inr (.inr ⟨ob, xs, rfl⟩)
    · by_cases m : b ∈ tA K
      · rw [t1 m] at z
        cases z
        exact tE b m
      · rw [t2 m] at z
        obtain ⟨rfl, ob, xs, rfl⟩ := hG b u z
        exact hok ob xs z _
    · by_cases m : b ∈ tA K
      · exact .inr m
      · rw [t2 m] at z
        obtain ⟨u, hu⟩ := not_none z
        exact .inl (hG b u hu).1
  rcases hk : K.lookup a with _ | o
  · refine fin (fun b => if b = a then some (.frz { cls := .type "list", data := .seq its.toArray } (.lst (ns.map V.int))) else none) (fun b o z => ?_) (.lst (.inl (.inr ⟨{ cls := .type "list", data := .seq its.toArray }, if_pos rfl⟩)) (ints_dp ns)) (fun ob xs z H => ?_) fun _ => hk
    · by_cases c : b = a
      · have z2 : some (HO.frz { cls := .type "list", data := .seq its.toArray } (.lst (ns.map V.int))) = some o := (if_pos c).symm.trans z
        cases z2
        exact ⟨c, _, _, rfl⟩
      · exact absurd ((if_neg c).symm.trans z) (fun q => nomatch q)
    · have z2 : some (HO.frz { cls := .type "list", data := .seq its.toArray } (.lst (ns.map V.int))) = some (.frz ob (.lst xs)) := (if_pos rfl).symm.trans z
      cases z2
      exact ⟨oa, by rw [List.length_map]; exact hl, its, _, rv, oa⟩
  · have e := (KX a o hk).symm.trans oa
    cases e
    exact fin (fun _ => none) (fun b o z => nomatch z) (.lst (.inr ⟨_, its.toArray, _, hk, rfl, rfl, rfl, by rw [List.size_toArray, lenV]; exact hl, by simpa using rv⟩) (ints_dp ns)) (fun ob xs z => nomatch z) fun z => absurd rfl z
/-- as walk_ofE, for a promise over data -/
theorem walkG {l : PySem.W.OpenLaw} {n k : Nat} {q : Program} {loose : List Str} {XP : (Str → Option Value) → Heap → Prop} {YP : World → Heap → Prop} {d : DefRec} {x : Str}
    (hn : l.most = some n) (hn2 : n ≤ sizeLine) (hdf : d.params.defaults = []) (hr : Room k callerA)
    (F : ∀ (w : World) (mg : Str → Option Value) (fa : Addr) (h : Heap), YP w h → h.Ns mainGlobals mg → mg d.name = some (.ref fa) →
      ∃ (K : PySem.W.Frag) (fd : FuncData) (dsp : DSp), K.In h ∧ TabsE K h ∧ (∀ (s : Shared) (u : Value), BindsTo s fd ⟨[u], []⟩ [(x, u)]) ∧
        (∀ (ns : List Int), ns.length ≤ n → ∀ P : KT, P (.dat (.bool true)) [] → dsp [.dat (.list (ns.map PyData.int))] [] P (fun _ _ _ => False)) ∧
        ∀ base : Heap, K.In base → base.Ns mainGlobals mg → FnG l.prog w K mg base k fa fd [x] (toSp K dsp)) :
    PySem.W.WalkO q loose XP YP l.row.toRowW d [] (fun f vs => PySem.call f vs) := by
  refine Att.attach_call hn hdf fun w s₀ s1 mg mb fa o pm cd doc a vs ns G Y ho hd hcd hmg hobj hints hlen hg => ?_
  obtain ⟨K, fd, dsp, KX, hT, hb, hD, hF⟩ := F w mg fa _ Y G.T.g hmg
  exact law_callG KX G.T.g G.T.b G.T.builtins G.T.nolimit hg hT hobj hints (Nat.le_trans hlen hn2) hr hF hb (hD ns hlen)
end DL
namespace DL
open PySem PySem.Spec L2
theorem sizeLine_ge : 1000000 ≤ sizeLine := by decide
theorem toD_lst {k n : Nat} {μ : Mu} {ts : List T} {ds : List PyData} (h : μ[n]? = some (.lst ts)) (e : toDs k μ ts = some ds) : toD (k + 1) μ (.loc n) = some (.list ds) := by
  rw [toD, h]
  show (toDs k μ ts).map PyData.list = _
  rw [e]
  rfl
theorem toD_tup {k n : Nat} {μ : Mu} {ts : List T} {ds : List PyData} (h : μ[n]? = some (.tup ts)) (e : toDs k μ ts = some ds) : toD (k + 1) μ (.loc n) = some (.tuple ds) := by
  rw [toD, h]
  show (toDs k μ ts).map PyData.tuple = _
  rw [e]
  rfl
theorem c_reprD {t : T} {μ : Mu} {P : KT} {d : PyData} (h : toD 8 μ t = some d) (s : Shw d) (hp : P (.dat (.str d.shown)) μ) : cRepr [t] μ P := by
  show (match toD 8 μ t with
    | some d => Shw d ∧ P (.dat (.str d.shown)) μ
    | none => False)
  rw [h]
  exact ⟨s, hp⟩
/-! ### comprehensions and loops -/
def LcG (I : IT) (wg : WpG) (wt : WpT) (we : WpE) (vs : List Nat) (env : En) (μ1 : Mu) (P : KT) : Prop := ∃ Inv : Nat → List T → Mu → Prop, Inv 0 [] μ1 ∧ (∀ i acc μ, i ≤ I.n → Inv i acc μ → I.ok μ) ∧
  (∀ i acc μ, i < I.n → Inv i acc μ → I.itm i μ fun t μ2 => wg t (wipeE env vs) μ2 fun env3 μ3 => wt env3 μ3 (fun b μ4 =>
    if b = true then we env3 μ4 (fun y μ5 => acc.length < sizeLine ∧ Inv (i + 1) (acc ++ [y]) μ5) NX else Inv (i + 1) acc μ4) NX) ∧ ∀ acc μ, Inv I.n acc μ → mkL acc μ P
theorem wLc_eq (wi : WpI) (wg : WpG) (wt : WpT) (we : WpE) (vs : List Nat) (env : En) (μ : Mu) (P : KT) (PX : KX) : wLc wi wg wt we vs env μ P PX = wi env μ (fun I μ1 => LcG I wg wt we vs env μ1 P) PX := rfl
/-- a comprehension whose element is a datum, the store as it was -/
theorem lc_pure {I : IT} {wg : WpG} {we : WpE} {vs : List Nat} {env : En} {μ : Mu} {P : KT} (f : Nat → T) (ok : I.ok μ) (hl : I.n ≤ 1000000)
    (h : ∀ i, i < I.n → ∀ Q : KT, Q (f i) μ → I.itm i μ fun t μ2 => wg t (wipeE env vs) μ2 fun env3 μ3 => we env3 μ3 Q NX)
    (hp : P (.loc μ.length) (μ ++ [.lst ((List.range I.n).map f)])) : LcG I wg wYes we vs env μ P := by
  refine ⟨fun i acc μ' => μ' = μ ∧ acc = (List.range i).map f, ⟨rfl, rfl⟩, fun i acc μ' _ h => (by rw [h.1]; exact ok), fun i acc μ' hi q => ?_, fun acc μ' q => ?_⟩
  · obtain ⟨rfl, rfl⟩ := q
    refine h i hi _ ⟨?_, rfl, ?_⟩
    · have := sizeLine_ge
      simp
      omega
    · rw [List.range_succ, List.map_append]
      rfl
  · obtain ⟨rfl, rfl⟩ := q
    exact hp
def ForG (I : IT) (wg : WpG) (wb : WpS) (D : DE) (env : En) (μ1 : Mu) : Prop := ∃ Inv : Nat → En → Mu → Prop, Inv 0 env μ1 ∧ (∀ i env μ, i ≤ I.n → Inv i env μ → I.ok μ) ∧
  (∀ i env μ, i < I.n → Inv i env μ → I.itm i μ fun t μ2 => wg t env μ2 fun env3 μ3 => wb { D with nx := Inv (i + 1), ct := Inv (i + 1), bk := D.nx } env3 μ3) ∧ ∀ env μ, Inv I.n env μ → D.nx env μ
theorem wFor_eq (wi : WpI) (wg : WpG) (wb : WpS) (D : DE) (env : En) (μ : Mu) : wFor wi wg wb D env μ = wi env μ (fun I μ1 => ForG I wg wb D env μ1) (D.px env) := rfl
def w__law_coin : WpS := (wSeq (wIfS (wB (wOp (oI CTrue gGt) (wOp oIx (wVar 0) (wC (.int 0))) (wC (.int 0)))) (wSeq (wAsg (wOp (oI CPos gMod) (wCB cInt (wCons (wOp oIx (wVar 0) (wC (.int 0))) wNil)) (wVar 1)) (wgName 3))
    (wSeq (wAsg (wOp (oI CDivW gDiv) (wOp oIx (wVar 0) (wC (.int 0))) (wVar 1)) (wgSub (wVar 0) (wC (.int 0)) oSetL))
    (wRet (wVar 3)))) wNext)
    (wSeq (wAsg (wOp oAdd (wOp oIx (wVar 0) (wC (.int 2))) (wC (.int 1))) (wgSub (wVar 0) (wC (.int 2)) oSetL))
    (wSeq (wAsg (wOp (oI CPos gMod) (wOp (oI CPowW gPow) (wCB cInt (wCons (wOp oAdd (wOp oIx (wVar 0) (wC (.int 1))) (wOp (oI CMul gMul) (wC (.int 2038074743)) (wOp oIx (wVar 0) (wC (.int 2))))) wNil)) (wC (.int 3))) (wOp oAdd (wOp (oI CPowW gPow) (wC (.int 10)) (wC (.int 25))) (wC (.int 13)))) (wgName 2))
    (wSeq (wAsg (wOp (oI CPos gMod) (wOp (oI CPowW gPow) (wCB cInt (wCons (wOp oAdd (wVar 2) (wOp (oI CMul gMul) (wC (.int 982451653)) (wOp oIx (wVar 0) (wC (.int 2))))) wNil)) (wC (.int 2))) (wOp oAdd (wOp (oI CPowW gPow) (wC (.int 10)) (wC (.int 24))) (wC (.int 7)))) (wgName 2))
    (wRet (wOp (oI CPos gMod) (wCB cInt (wCons (wOp (oI CDivW gDiv) (wVar 2) (wC (.int 1024))) wNil)) (wVar 1)))))))
abbrev Ob (a b c : Int) : O := .lst [.dat (.int a), .dat (.int b), .dat (.int c)]
def Pur (k : Int) (o : O) : Prop := ∃ a b c, o = Ob a b c ∧ 0 ≤ a ∧ 0 ≤ b ∧ b < 2 ^ 90 ∧ 0 ≤ c ∧ c ≤ k
def d__law_coin : DSp := fun ts μ P PX => ∃ (o : O) (many k : Int), ts = [.loc 0, .dat (.int many)] ∧ μ = [o] ∧ Pur k o ∧ k < 2 ^ 40 ∧ 0 < many ∧ many < 2 ^ 200 ∧ ∀ r o', 0 ≤ r → r < many → Pur (k + 1) o' → P (.dat (.int r)) [o']
def d__law_fm_purse : DSp := fun ts μ P PX => ∃ (ns : List Int) (i : Nat), ts = [.dat (.list (ns.map PyData.int)), .dat (.int i)] ∧ μ = [] ∧ i ≤ 63 ∧ ns.length ≤ 63 ∧ ∀ o, Pur 0 o → P (.loc 0) [o]
theorem oAdd_int (i j : Int) (μ : Mu) (P : KT) : oAdd (.dat (.int i)) (.dat (.int j)) μ P ↔ P (.dat (.int (i + j))) μ := by
  simp [oAdd, oI, oS, nm, oCatL, oCatT, rdL, rdT, CTrue, gAdd]
theorem nm_dat (μ : Mu) (d : PyData) : nm μ (.dat d) = .dat d := rfl
/-- an end with the first places alone -/
theorem end_dat {n0 : Nat} {P : KT} {d : PyData} {μ : Mu} (hn : n0 ≤ μ.length) (hr : (μ.take n0).map (O.ren (fun i => i)) = μ.take n0) (h : P (.dat d) (μ.take n0)) (hd : ∀ o ∈ μ.take n0, ∀ f : Nat → Nat, (∀ i, i < n0 → f i = i) → o.ren f = o) : endV n0 P (.dat d) μ := by
  refine ⟨μ, List.range n0, .dat d, μ.take n0, .refl μ, ?_, ⟨List.nodup_range, fun i hi => ?_, ?_⟩, rfl, h⟩
  · rw [List.take_of_length_le (by simp)]
  · have := List.mem_range.mp hi
    omega
  · apply List.ext_getElem?
    intro i
    rw [List.getElem?_map, List.getElem?_map]
    by_cases c : i < n0
    · have c2 : i < μ.length := by omega
      rw [List.getElem?_range c, List.getElem?_take_of_lt c, List.getElem?_eq_getElem c2]
      have hm : μ[i] ∈ μ.take n0 := by
        rw [List.mem_take_iff_getElem]
        exact ⟨i, by omega, rfl⟩
      have := hd μ[i] hm (fV (List.range n0) μ) (fun j hj => by unfold fV; exact getD_of (List.getElem?_range hj))
      simp [this, c2]
    · rw [List.getElem?_eq_none (by simp; omega), List.getElem?_eq_none (by simp; omega)]
      rfl
theorem Pur.ren {k : Int} {o : O} (h : Pur k o) (f : Nat → Nat) : o.ren f = o := by
  obtain ⟨a, b, c, rfl, _⟩ := h
  rfl
def Dn (n : Nat) (d : DSp) : DSp := fun ts μ P PX => ts.length = n ∧ d ts μ P PX
theorem end_pur {k : Int} {P : KT} {d : PyData} {o : O} {g : Mu} (h : Pur k o) (hP : Pur k o → P (.dat d) [o]) : endV 1 P (.dat d) (o :: g) :=
  end_dat (by simp) (by simp [h.ren]) (by simpa using hP h) (fun o' ho f _ => by
    have : o' = o := by simpa using ho
    subst this
    exact h.ren f)
theorem Pur.mono {k k' : Int} {o : O} (h : Pur k o) (l : k ≤ k') : Pur k' o := by
  obtain ⟨a, b, c, rfl, h1, h2, h3, h4, h5⟩ := h
  exact ⟨a, b, c, rfl, h1, h2, h3, h4, by omega⟩
theorem Pur.nm {k : Int} {o : O} (h : Pur k o) : ∀ d, o ≠ .frz d := by
  obtain ⟨a, b, c, rfl, _⟩ := h
  exact fun d z => nomatch z
/-- a call that sees one place alone, data behind it -/
theorem call1 {n : Nat} {o : O} {ds : List PyData} {dsp : DSp} {μ : Mu} {P : KT} {PX : KX} (h : μ[n]? = some o) (hr : ∀ f, o.ren f = o) (hf : ∀ d, o ≠ .frz d)
    (hd : dsp (.loc 0 :: ds.map .dat) [o] (fun t μ' => P (t.ren (gV [n] μ)) (setAll μ [n] (μ'.map (O.ren (gV [n] μ))))) (fun C t μ' => PX C (t.ren (gV [n] μ)) (setAll μ [n] (μ'.map (O.ren (gV [n] μ)))))) :
    callD dsp (.loc n :: ds.map .dat) μ P PX := by
  refine ⟨μ, .refl μ, [n], .loc 0 :: ds.map .dat, [o], ⟨(by simp), fun i hi => ?_, by simp [h, hr]⟩, .inl ⟨?_, hd⟩⟩
  · have : i = n := by simpa using hi
    subst this
    exact (List.getElem?_eq_some_iff.mp h).1
  · have e : nm μ (.loc n) = .loc n := by
      show (match μ[n]? with
        | some (.frz d) => T.dat d
        | _ => T.loc n) = T.loc n
      rw [h]
      cases o with
      | frz d => exact absurd rfl (hf d)
      | _ => rfl
    have e2 : (ds.map T.dat).map (nm μ) = ds.map T.dat := by
      rw [List.map_map]
      rfl
    rw [List.map_cons, List.map_cons, e, e2, ren_dats]
    rfl
theorem log2_lt {i : Int} {n : Nat} (h0 : 0 ≤ i) (h : i < 2 ^ n) (hn : 0 < n) : i.natAbs.log2 < n := by
  by_cases z : i.natAbs = 0
  · rw [z]; simpa using hn
  · exact (Nat.log2_lt z).mpr (by have : (i.natAbs : Int) < ((2 ^ n : Nat) : Int) := by (push_cast; omega)
                                  exact_mod_cast this)
theorem log2_abs {i : Int} {n : Nat} (h : i.natAbs < 2 ^ n) (hn : 0 < n) : i.natAbs.log2 < n := by
  by_cases z : i.natAbs = 0
  · rw [z]; simpa using hn
  · exact (Nat.log2_lt z).mpr h
theorem cdiv_ok {i j : Int} (h0 : 0 < j) (h : j < 2 ^ 200) : CDivW i j := ⟨h0, Nat.lt_trans (log2_lt (by omega) h (by decide)) (by decide)⟩
theorem cmulL {i j : Int} (h : -(2 ^ 64) < i) (h' : i < 2 ^ 64) : CMul i j := .inl ⟨h, h'⟩
theorem cmulR {i j : Int} (h : -(2 ^ 64) < j) (h' : j < 2 ^ 64) : CMul i j := .inr ⟨h, h'⟩
theorem cpow3 {i : Int} (h : -(2 ^ 400) < i) (h' : i < 2 ^ 400) : CPowW i 3 := cpow_ok (n := 400) (j := 3) (by omega) (by decide)
theorem cpow2 {i : Int} (h : -(2 ^ 400) < i) (h' : i < 2 ^ 400) : CPowW i 2 := cpow_ok (n := 400) (j := 2) (by omega) (by decide)
theorem cpow10 {j : Nat} (h : j ≤ 1000) : CPowW 10 (j : Int) := cpow_ok (n := 4) (j := j) (by decide) (by omega)
theorem p__law_coin (ts : List T) (μ : Mu) (PT : KT) (PX : KX) (h : d__law_coin ts μ PT PX) : w__law_coin { nx := fun _ μ' => endV μ.length PT (.dat .none) μ', rt := endV μ.length PT, ex := fun C t _ μ' => endV μ.length (PX C) t μ' } (startE 4 ts) μ := by
  obtain ⟨o, many, k, rfl, rfl, ⟨a, b, c, rfl, ha, hb, hb2, hc, hc2⟩, hk, hm, hm2, hP⟩ := h
  by_cases h0 : 0 < a
  · simp [w__law_coin, DE.px, wSeq, wIfS, wB, wOp, wVar, wC, startE, asB, nm_dat, nm, oI, oIx, oIxQ, oIxS, rdQ, rdL, rdT, wAsg, wgName, wgSub, oSetL, wRet, wRetN, wNext, wDrop, wCall, wCB, wPar, wBM, tyT, wSl, wPart, wNoPart, wgTup, wgCons, wgNil, wCons, wNil, cInt, itR, itT, itS, itL, wiR1, wiR2, wiT, wiS, wiL, wLc_eq, wFor_eq, wYes, wipeE, oAdd_int, oEqA_int', oEqA_str', oNeA_str', onL, atI, ixN, CTrue, gGt, gMul, gMod, gPow, gDiv, gSub, gLt, gLe, gGe, gAdd, gNeg, gMax, gMin, gAbs, cI1, cI2, wUn, uI, wIf, wTru, asTru, truT, wNot, wAnd, wOr, wAndV, wOrV, wNotV, wLst, wTup, mkL, mkT, allD, nm, h0]
    refine ⟨hm, cdiv_ok hm hm2, end_pur (k := k + 1) ⟨_, _, _, rfl, Int.ediv_nonneg ha (by omega), hb, hb2, hc, by omega⟩ fun p => ?_⟩
    exact hP _ _ (Int.emod_nonneg _ (by omega)) (Int.emod_lt_of_pos _ hm) p
  · simp [w__law_coin, DE.px, wSeq, wIfS, wB, wOp, wVar, wC, startE, asB, nm_dat, nm, oI, oIx, oIxQ, oIxS, rdQ, rdL, rdT, wAsg, wgName, wgSub, oSetL, wRet, wRetN, wNext, wDrop, wCall, wCB, wPar, wBM, tyT, wSl, wPart, wNoPart, wgTup, wgCons, wgNil, wCons, wNil, cInt, itR, itT, itS, itL, wiR1, wiR2, wiT, wiS, wiL, wLc_eq, wFor_eq, wYes, wipeE, oAdd_int, oEqA_int', oEqA_str', oNeA_str', onL, atI, ixN, CTrue, gGt, gMul, gMod, gPow, gDiv, gSub, gLt, gLe, gGe, gAdd, gNeg, gMax, gMin, gAbs, cI1, cI2, wUn, uI, wIf, wTru, asTru, truT, wNot, wAnd, wOr, wAndV, wOrV, wNotV, wLst, wTup, mkL, mkT, allD, nm, h0]
    have hx : 0 ≤ (b + 2038074743 * (c + 1)) ^ 3 % 10000000000000000000000013 ∧ (b + 2038074743 * (c + 1)) ^ 3 % 10000000000000000000000013 < 10000000000000000000000013 := ⟨Int.emod_nonneg _ (by omega), Int.emod_lt_of_pos _ (by omega)⟩
    generalize (b + 2038074743 * (c + 1)) ^ 3 % 10000000000000000000000013 = x at hx ⊢
    have hy : 0 ≤ (x + 982451653 * (c + 1)) ^ 2 % 1000000000000000000000007 ∧ (x + 982451653 * (c + 1)) ^ 2 % 1000000000000000000000007 < 1000000000000000000000007 := ⟨Int.emod_nonneg _ (by omega), Int.emod_lt_of_pos _ (by omega)⟩
    refine ⟨cmulL (by decide) (by decide), cpow3 (by omega) (by omega), cpow10 (by decide), cmulL (by decide) (by decide), cpow2 (by omega) (by omega), cpow10 (by decide), cdiv_ok (by decide) (by decide), hm, end_pur (k := k + 1) ⟨_, _, _, rfl, ha, hb, hb2, by omega, by omega⟩ fun p => ?_⟩
    exact hP _ _ (Int.emod_nonneg _ (by omega)) (Int.emod_lt_of_pos _ hm) p
/-- the call of the coin -/
theorem c_coin {n : Nat} {o : O} {many k : Int} {μ : Mu} {P : KT} {PX : KX} (h : μ[n]? = some o) (hp : Pur k o) (hk : k < 2 ^ 40) (hm : 0 < many) (hm2 : many < 2 ^ 200) (hP : ∀ r o', 0 ≤ r → r < many → Pur (k + 1) o' → P (.dat (.int r)) (μ.set n o')) :
    callD (Dn 2 d__law_coin) [.loc n, .dat (.int many)] μ P PX := by
  refine call1 (ds := [.int many]) h (fun f => hp.ren f) hp.nm ⟨rfl, o, many, k, rfl, rfl, hp, hk, hm, hm2, fun r o' h1 h2 p => ?_⟩
  have e := p.ren (gV [n] μ)
  simp only [T.ren, List.map_cons, List.map_nil, setAll, List.append_nil, e]
  exact hP r o' h1 h2 p
end DL
/-! DL13: ends, calls, texts of data: the small change of the mathematics. -/
namespace DL
open PySem PySem.Spec L2
/-! ### ends -/
/-- a live result and the first places -/
theorem end_new {n0 m : Nat} {P : KT} {o : O} {μ : Mu} (hn : n0 ≤ m) (hm : μ[m]? = some o) (hd : ∀ o' ∈ μ.take n0 ++ [o], ∀ f : Nat → Nat, (∀ i, i < n0 → f i = i) → O.ren f o' = o') (hf : ∀ d, o ≠ .frz d) (h : P (.loc n0) (μ.take n0 ++ [o])) : endV n0 P (.loc m) μ := by
  have lm : m < μ.length := (List.getElem?_eq_some_iff.mp hm).1
  have hfv : ∀ i, i < n0 → fV (List.range n0 ++ [m]) μ i = i := fun i hi => by
    unfold fV
    exact getD_of (by rw [List.getElem?_append_left (by simpa using hi), List.getElem?_range hi])
  have hfm : fV (List.range n0 ++ [m]) μ n0 = m := by
    unfold fV
    exact getD_of (by rw [List.getElem?_append_right (by simp)]; simp)
  refine ⟨μ, List.range n0 ++ [m], .loc n0, μ.take n0 ++ [o], .refl μ, ?_, ⟨?_, fun i hi => ?_, ?_⟩, ?_, h⟩
  · rw [List.take_append_of_le_length (by simp), List.take_of_length_le (by simp)]
  · rw [List.nodup_append]
    exact ⟨List.nodup_range, by simp, fun a ha b hb => by
      have := List.mem_range.mp ha
      have : b = m := by simpa using hb
      omega⟩
  · rcases List.mem_append.mp hi with h1 | h1
    · have := List.mem_range.mp h1
      omega
    · have : i = m := by simpa using h1
      omega
  · rw [List.map_append, List.map_append]
    congr 1
    · apply List.ext_getElem?
      intro i
      rw [List.getElem?_map, List.getElem?_map]
      by_cases c : i < n0
      · have c2 : i < μ.length := by omega
        rw [List.getElem?_range c, List.getElem?_take_of_lt c, List.getElem?_eq_getElem c2]
        have hm : μ[i] ∈ μ.take n0 := by
          rw [List.mem_take_iff_getElem]
          exact ⟨i, by omega, rfl⟩
        have := hd μ[i] (List.mem_append_left _ hm) _ hfv
        simp [this, c2]
      · rw [List.getElem?_eq_none (by simp; omega), List.getElem?_eq_none (by simp; omega)]
        rfl
    · have := hd o (by simp) _ hfv
      simp [hm, this]
  · show (match μ[m]? with
      | some (.frz d) => T.dat d
      | _ => T.loc m) = T.loc (fV (List.range n0 ++ [m]) μ n0)
    rw [hm, hfm]
    cases o with
    | frz d => exact absurd rfl (hf d)
    | _ => rfl
/-! ### calls -/
/-- a call by data alone -/
theorem call0 {ds : List PyData} {dsp : DSp} {μ : Mu} {P : KT} {PX : KX} (hd : dsp (ds.map .dat) [] (fun t μ' => P (t.ren (gV [] μ)) (μ ++ μ'.map (O.ren (gV [] μ)))) (fun C t μ' => PX C (t.ren (gV [] μ)) (μ ++ μ'.map (O.ren (gV [] μ))))) : callD dsp (ds.map .dat) μ P PX := by
  refine ⟨μ, .refl μ, [], ds.map .dat, [], ⟨List.nodup_nil, fun i hi => (by simp at hi), rfl⟩, .inl ⟨?_, by simpa only [setAll] using hd⟩⟩
  rw [ren_dats, List.map_map]
  rfl
/-- a place that is made of data alone -/
def Grd (o : O) : Prop := (∀ f, O.ren f o = o) ∧ ∀ d, o ≠ .frz d
theorem Grd.lst (ds : List PyData) : Grd (.lst (ds.map .dat)) := ⟨fun f => by
  show O.lst ((ds.map T.dat).map (T.ren f)) = _
  rw [ren_dats], fun d z => nomatch z⟩
theorem nm_loc {μ : Mu} {n : Nat} {o : O} (h : μ[n]? = some o) (g : ∀ d, o ≠ .frz d) : nm μ (.loc n) = .loc n := by
  show (match μ[n]? with
    | some (.frz d) => T.dat d
    | _ => T.loc n) = T.loc n
  rw [h]
  cases o with
  | frz d => exact absurd rfl (g d)
  | _ => rfl
theorem view1 {μ : Mu} {n : Nat} {o : O} (h : μ[n]? = some o) (g : ∀ f, O.ren f o = o) : View [n] μ [o] :=
  ⟨by simp, fun i hi => by
    have : i = n := by simpa using hi
    subst this
    exact (List.getElem?_eq_some_iff.mp h).1, by simp [h, g]⟩
/-! ### operators -/
theorem oAdd_lst {x y : T} {μ : Mu} {P : KT} {xs ys : List T} (h1 : rdL μ x = some xs) (h2 : rdL μ y = some ys) (hl : xs.length + ys.length ≤ 1000000) (h : mkL (xs ++ ys) μ P) : oAdd x y μ P := by
  refine .inr (.inl ?_)
  unfold oCatL
  rw [h1, h2]
  exact ⟨Nat.le_trans hl sizeLine_ge, h⟩
theorem oAdd_str (i j : Str) (μ : Mu) (P : KT) (h : i.length + j.length ≤ 1000000) (hp : P (.dat (.str (i ++ j))) μ) : oAdd (.dat (.str i)) (.dat (.str j)) μ P :=
  .inl (.inr ⟨Nat.le_trans h sizeLine_ge, hp⟩)
/-! ### what can be shown -/
theorem int_short {i : Int} (h : i.natAbs < 10 ^ 60) : PyData.leavesShort 64 (.int i) = true := by
  unfold PyData.leavesShort
  rw [decide_eq_true_eq]
  have e : (PyData.int i).shown = Str.ofString (toString i) := PyData.shown_int i
  rw [e]
  have := int_text_length_le10 (k := 60) (by decide) h
  have e2 : (Str.ofString (toString i)).length = (toString i).length := by
    rw [Str.ofString_eq_toList]
    show ((toString i).toList.map Char.toNat).toArray.size = _
    simp [String.length_toList]
  omega
theorem str_short {z : Str} (h : ∀ c ∈ z.cps.toList, c < 16 ^ 8) : PyData.leavesShort 64 (.str z) = true := by
  unfold PyData.leavesShort
  exact List.all_eq_true.mpr fun c hc => decide_eq_true (h c hc)
theorem shw_ok {d : PyData} (h1 : PyData.leavesShort 64 d = true) (h2 : d.showable = true) (h3 : d.hasDict = false) (h4 : d.depth ≤ 60) (h5 : d.bulk ≤ 15000) : Shw d := by
  refine ⟨h2, h3, h4, ?_⟩
  have := PyData.shown_le_bulk 64 (by decide) d h1
  have := sizeLine_ge
  omega
def w__law_fm_purse : WpS := (wSeq (wAsg (wIf (wB (wOp (oI CTrue gLt) (wVar 1) (wCB cLen (wCons (wVar 0) wNil)))) (wOp oIx (wVar 0) (wVar 1)) (wC (.int 0))) (wgName 2))
    (wRet (wLst (wCons (wCB (cI2 gMax) (wCons (wC (.int 0)) (wCons (wOp (oI CTrue gSub) (wCB (cI1 gAbs) (wCons (wVar 2) wNil)) (wOp (oI CPowW gPow) (wC (.int 10)) (wC (.int 18)))) wNil))) (wCons (wOp (oI CPos gMod) (wCB cInt (wCons (wOp oAdd (wOp oAdd (wOp (oI CMul gMul) (wVar 2) (wC (.int 30011))) (wOp (oI CMul gMul) (wVar 1) (wC (.int 7368787)))) (wC (.int 104729))) wNil)) (wOp oAdd (wOp (oI CPowW gPow) (wC (.int 10)) (wC (.int 24))) (wC (.int 7)))) (wCons (wC (.int 0)) wNil))))))
theorem p__law_fm_purse (ts : List T) (μ : Mu) (PT : KT) (PX : KX) (h : d__law_fm_purse ts μ PT PX) : w__law_fm_purse { nx := fun _ μ' => endV μ.length PT (.dat .none) μ', rt := endV μ.length PT, ex := fun C t _ μ' => endV μ.length (PX C) t μ' } (startE 3 ts) μ := by
  obtain ⟨ns, i, rfl, rfl, hi, hl, hP⟩ := h
  have hs := sizeLine_ge
  have fin : ∀ a b : Int, 0 ≤ a → endV 0 PT (.loc 0) [Ob a (b % 1000000000000000000000007) 0] := fun a b h => by
    have p : Pur 0 (Ob a (b % 1000000000000000000000007) 0) := ⟨_, _, _, rfl, h, Int.emod_nonneg _ (by omega), Int.lt_of_lt_of_le (Int.emod_lt_of_pos _ (by decide)) (by decide), by decide, by decide⟩
    refine end_new (o := Ob _ _ _) (Nat.le_refl 0) rfl (fun o' ho f _ => ?_) (fun d z => nomatch z) (hP _ p)
    have : o' = Ob a (b % 1000000000000000000000007) 0 := by simpa using ho
    subst this
    rfl
  by_cases c : i < ns.length
  · simp [w__law_fm_purse, DE.px, wSeq, wIfS, wB, wOp, wVar, wC, startE, asB, nm_dat, nm, oI, oIx, oIxQ, oIxS, rdQ, rdL, rdT, wAsg, wgName, wgSub, oSetL, wRet, wRetN, wNext, wDrop, wCall, wCB, wPar, wBM, tyT, wSl, wPart, wNoPart, wgTup, wgCons, wgNil, wCons, wNil, cInt, itR, itT, itS, itL, wiR1, wiR2, wiT, wiS, wiL, wLc_eq, wFor_eq, wYes, wipeE, oAdd_int, oEqA_int', oEqA_str', oNeA_str', onL, atI, ixN, CTrue, gGt, gMul, gMod, gPow, gDiv, gSub, gLt, gLe, gGe, gAdd, gNeg, gMax, gMin, gAbs, cI1, cI2, wUn, uI, wIf, wTru, asTru, truT, wNot, wAnd, wOr, wAndV, wOrV, wNotV, wLst, wTup, mkL, mkT, allD, nm, c, cLen, lenT]
    exact ⟨cpow10 (by decide), cmulR (by decide) (by decide), cmulR (by decide) (by decide), cpow10 (by decide), by omega, fin _ _ (by split <;> omega)⟩
  · simp [w__law_fm_purse, DE.px, wSeq, wIfS, wB, wOp, wVar, wC, startE, asB, nm_dat, nm, oI, oIx, oIxQ, oIxS, rdQ, rdL, rdT, wAsg, wgName, wgSub, oSetL, wRet, wRetN, wNext, wDrop, wCall, wCB, wPar, wBM, tyT, wSl, wPart, wNoPart, wgTup, wgCons, wgNil, wCons, wNil, cInt, itR, itT, itS, itL, wiR1, wiR2, wiT, wiS, wiL, wLc_eq, wFor_eq, wYes, wipeE, oAdd_int, oEqA_int', oEqA_str', oNeA_str', onL, atI, ixN, CTrue, gGt, gMul, gMod, gPow, gDiv, gSub, gLt, gLe, gGe, gAdd, gNeg, gMax, gMin, gAbs, cI1, cI2, wUn, uI, wIf, wTru, asTru, truT, wNot, wAnd, wOr, wAndV, wOrV, wNotV, wLst, wTup, mkL, mkT, allD, nm, c, cLen, lenT]
    exact ⟨cpow10 (by decide), cmulR (by decide) (by decide), cmulR (by decide) (by decide), cpow10 (by decide), by omega, fin _ _ (by omega)⟩
theorem c_purse {ns : List Int} {i : Nat} {μ : Mu} {P : KT} {PX : KX} (hi : i ≤ 63) (hl : ns.length ≤ 63) (hP : ∀ o, Pur 0 o → P (.loc μ.length) (μ ++ [o])) : callD (Dn 2 d__law_fm_purse) [.dat (.list (ns.map PyData.int)), .dat (.int i)] μ P PX := by
  refine call0 (ds := [_, _]) ⟨rfl, ns, i, rfl, rfl, hi, hl, fun o h => ?_⟩
  have e := h.ren (gV [] μ)
  simp only [List.map_cons, List.map_nil, e, T.ren, gV, List.getD_nil, List.length_nil, Nat.sub_zero, Nat.add_zero]
  exact hP o h
end DL
/-! DL14: what the printed texts name. -/
namespace DL
open PySem PySem.Spec L2
open He (ga ma)
theorem body_of {X : Cx} {W : WX} {st : List Stmt} {ws : WpS} (hb : Takes X W → PassesOwn (model X.prog X.w) X.A X.env X.xe → JB X W st ws) (tk : Takes X W) (hp : PassesOwn (model X.prog X.w) X.A X.env X.xe) : JB X W st ws := hb tk hp
theorem err_fi {K : PySem.W.Frag} {x : Str} {f : Addr} (h : (errB x K && decide (ma K (ga K x) "__init__" = f)) = true) : ErrC K (ga K x) f := by
  obtain ⟨h1, h2⟩ := Bool.and_eq_true_iff.mp h
  have e := of_decide_eq_true h2
  have := err_ok h1
  rw [e] at this
  exact this
end DL
/-! DL15: texts, sorted, all, calls by names. -/
namespace DL
open PySem PySem.Spec L2
section
variable {X : Cx} {K : PySem.W.Frag} {s : S} {μ : Mu}
/-! ### lists of texts, of truths -/
theorem strsOf_ok {G : Hp} : ∀ {ds : List PyData} {vs : List V} {ys : List Str}, DpAll K G vs ds → strsOf ds = some ys → vs = ys.map V.str
  | [], _, _, .nil, e => by cases e; rfl
  | d :: ds, _, ys, .cons h t, e => by
    cases d with
    | str z =>
      cases q : strsOf ds with
      | none => simp [strsOf, q] at e
      | some zs =>
        simp [strsOf, q] at e
        subst e
        cases h
        rw [strsOf_ok t q]
        rfl
    | _ => simp [strsOf] at e
theorem strsOf_map : ∀ ys : List Str, strsOf (ys.map PyData.str) = some ys
  | [] => rfl
  | y :: ys => by simp [strsOf, strsOf_map ys]
def strsT (μ : Mu) (ts : List T) : Option (List Str) := (allD μ ts).bind strsOf
theorem strsT_ok (r : Rel K s μ) {ts : List T} {vs : List V} {ys : List Str} (h : TRs K s ts vs) (e : strsT μ ts = some ys) : vs = ys.map V.str := by
  unfold strsT at e
  cases q : allD μ ts with
  | none => rw [q] at e; cases e
  | some ds =>
    rw [q] at e
    exact strsOf_ok (allD_ok r h q) e
theorem strsT_map (μ : Mu) (ys : List Str) : strsT μ (ys.map fun y => T.dat (.str y)) = some ys := by
  unfold strsT
  have e : (ys.map fun y => T.dat (.str y)) = (ys.map PyData.str).map T.dat := by simp
  rw [e, allD_dats]
  exact strsOf_map ys
def bolsOf : List PyData → Option (List Bool)
  | [] => some []
  | .bool z :: r => (bolsOf r).map (z :: ·)
  | _ :: _ => none
theorem bolsOf_ok {G : Hp} : ∀ {ds : List PyData} {vs : List V} {ys : List Bool}, DpAll K G vs ds → bolsOf ds = some ys → vs = ys.map V.bl
  | [], _, _, .nil, e => by cases e; rfl
  | d :: ds, _, ys, .cons h t, e => by
    cases d with
    | bool z =>
      cases q : bolsOf ds with
      | none => simp [bolsOf, q] at e
      | some zs =>
        simp [bolsOf, q] at e
        subst e
        cases h
        rw [bolsOf_ok t q]
        rfl
    | _ => simp [bolsOf] at e
def bolsT (μ : Mu) (ts : List T) : Option (List Bool) := (allD μ ts).bind bolsOf
theorem bolsT_ok (r : Rel K s μ) {ts : List T} {vs : List V} {ys : List Bool} (h : TRs K s ts vs) (e : bolsT μ ts = some ys) : vs = ys.map V.bl := by
  unfold bolsT at e
  cases q : allD μ ts with
  | none => rw [q] at e; cases e
  | some ds =>
    rw [q] at e
    exact bolsOf_ok (allD_ok r h q) e
theorem bolsOf_map : ∀ ys : List Bool, bolsOf (ys.map PyData.bool) = some ys
  | [] => rfl
  | y :: ys => by simp [bolsOf, bolsOf_map ys]
theorem bolsT_map (μ : Mu) (ys : List Bool) : bolsT μ (ys.map fun y => T.dat (.bool y)) = some ys := by
  unfold bolsT
  have e : (ys.map fun y => T.dat (.bool y)) = (ys.map PyData.bool).map T.dat := by simp
  rw [e, allD_dats]
  exact bolsOf_map ys
/-! ### built-in functions of lists -/
def cBL (g : List Bool → Bool) : CD := fun ts μ P => match ts with
  | [t] => match rdL μ t with
    | some xs => match bolsT μ xs with
      | some bs => P (.dat (.bool (g bs))) μ
      | none => False
    | none => False
  | _ => False
theorem c_BL {g : List Bool → Bool} {r : List V → Hp → VK → Prop} (hr : ∀ (a : Addr) (bs : List Bool) (H : Hp) (Q : VK), SqL K H a (bs.map V.bl) → Q (.bl (g bs)) H → r [.ref a] H Q) : SnC K r (cBL g) := fun s μ ts vs P rl h c Q q => by
  unfold cBL at c
  split at c
  · rename_i t
    obtain ⟨v, rfl, tv⟩ := trs1 h
    split at c
    · rename_i xs e
      split at c
      · rename_i bs e2
        obtain ⟨a, ys, rfl, sq, tx⟩ := rdL_ok rl tv e
        rw [bolsT_ok rl tx e2] at sq
        exact hr a bs s.H Q sq (q s _ _ μ (Ext.refl s) rl (mk_bool _) c)
      · exact c.elim
    · exact c.elim
  · exact c.elim
def cAll : CD := cBL fun bs => bs.all id
def cAny : CD := cBL fun bs => bs.any id
theorem c_all : SnC K (rAll K) cAll := c_BL fun a bs H Q h q => ⟨a, bs, rfl, h, q⟩
theorem c_any : SnC K (rAny K) cAny := c_BL fun a bs H Q h q => ⟨a, bs, rfl, h, q⟩
def cSortedS : CD := fun ts μ P => match ts with
  | [t] => match rdL μ t with
    | some xs => match strsT μ xs with
      | some zs => zs.length < 64 ∧ ∀ ys : List Str, ys.Perm zs → PyProof.Rows.sortedS ys = true → P (.loc μ.length) (μ ++ [.lst (ys.map fun y => .dat (.str y))])
      | none => False
    | none => False
  | _ => False
theorem trs_strs {s : S} (ys : List Str) : TRs K s (ys.map fun y => T.dat (.str y)) (ys.map V.str) := by
  induction ys with
  | nil => exact .nil
  | cons y ys ih => exact .cons (mk_str y) ih
theorem c_sortedS : SnC K (rSortedS K) cSortedS := fun s μ ts vs P rl h c Q q => by
  unfold cSortedS at c
  split at c
  · rename_i t
    obtain ⟨v, rfl, tv⟩ := trs1 h
    split at c
    · rename_i xs e
      split at c
      · rename_i zs e2
        obtain ⟨a, ws, rfl, sq, tx⟩ := rdL_ok rl tv e
        rw [strsT_ok rl tx e2] at sq
        refine ⟨a, zs, rfl, sq, c.1, fun ys p pm so hp => ?_⟩
        exact mkL_ok rl (trs_strs ys) (P := P) (c.2 ys pm so) q hp
      · exact c.elim
    · exact c.elim
  · exact c.elim
/-! ### methods of texts -/
def mJoin : MD := fun x ts μ P => match nm μ x, ts with
  | .dat (.str a), [t] => match rdQ μ t with
    | some xs => match strsT μ xs with
      | some ys => (ys.map (·.length)).sum + ys.length * a.length ≤ 16777216 ∧ P (.dat (.str (Txt.join a ys))) μ
      | none => False
    | none => False
  | _, _ => False
theorem m_join : SnM K (fun x xs H Q => ∃ a p, ∃ ys : List Str, x = .str a ∧ xs = [.ref p] ∧ (SqL K H p (ys.map V.str) ∨ SqT K H p (ys.map V.str)) ∧
    (ys.map (·.length)).sum + ys.length * a.length ≤ 16777216 ∧ Q (.str (Txt.join a ys)) H) mJoin := fun s μ x ts v vs P rl hx h c Q q => by
  unfold mJoin at c
  have hx' := nm_ok rl hx
  split at c
  · rename_i a t e
    rw [e] at hx'
    cases tr_str hx'
    obtain ⟨w, rfl, tv⟩ := trs1 h
    split at c
    · rename_i xs e1
      split at c
      · rename_i ys e2
        obtain ⟨p, ws, rfl, sq, tx⟩ := rdQ_ok rl tv e1
        rw [strsT_ok rl tx e2] at sq
        exact ⟨a, p, ys, rfl, rfl, sq, c.1, q s _ _ μ (Ext.refl s) rl (mk_str _) c.2⟩
      · exact c.elim
    · exact c.elim
  · exact c.elim
/-- a text's method of one text -/
def mS1 (C : Str → Str → Prop) (g : Str → Str → PyData) : MD := fun x ts μ P => match nm μ x, ts with
  | .dat (.str a), [t] => match nm μ t with
    | .dat (.str b) => C a b ∧ P (.dat (g a b)) μ
    | _ => False
  | _, _ => False
theorem m_S1 {C : Str → Str → Prop} {g : Str → Str → PyData} {gv : Str → Str → V} {r : V → List V → Hp → VK → Prop} (hg : ∀ a b (G : Hp), Dp K G (gv a b) (g a b)) (hr : ∀ a b H Q, C a b → Q (gv a b) H → r (.str a) [.str b] H Q) : SnM K r (mS1 C g) := fun s μ x ts v vs P rl hx h c Q q => by
  unfold mS1 at c
  have hx' := nm_ok rl hx
  split at c
  · rename_i a t e
    rw [e] at hx'
    cases tr_str hx'
    obtain ⟨w, rfl, tv⟩ := trs1 h
    have tv' := nm_ok rl tv
    split at c
    · rename_i b e2
      rw [e2] at tv'
      cases tr_str tv'
      exact hr a b s.H Q c.1 (q s _ (.dat (g a b)) μ (Ext.refl s) rl (hg a b s.G) c.2)
    · exact c.elim
  · exact c.elim
def gFind (a b : Str) : PyData := .int (Txt.find a b)
abbrev CT2 (_ _ : Str) : Prop := True
theorem m_find : SnM K (fun x xs H Q => ∃ a b, x = .str a ∧ xs = [.str b] ∧ Q (.int (Txt.find a b)) H) (mS1 CT2 gFind) := m_S1 (gv := fun a b => .int (Txt.find a b)) (fun _ _ _ => .int _) fun a b H Q _ q => ⟨a, b, rfl, rfl, q⟩
def mInsert : MD := fun x ts μ P => match ts with
  | [t, y] => match nm μ t with
    | .dat (.int i) => onL x μ fun n xs => xs.length < sizeLine ∧ 0 ≤ i ∧ i < 2 ^ 63 ∧ P (.dat .none) (μ.set n (.lst (xs.take i.toNat ++ [y] ++ xs.drop i.toNat)))
    | _ => False
  | _ => False
theorem m_insert : SnM K (fun x vs H Q => ∃ (l : Addr) (xs : List V) (i : Int) (y : V), x = .ref l ∧ vs = [.int i, y] ∧ H l = some (.lst xs) ∧ xs.length < sizeLine ∧ 0 ≤ i ∧ i < 2 ^ 63 ∧
    Q .non (upd H l (.lst (xs.take i.toNat ++ [y] ++ xs.drop i.toNat)))) mInsert := fun s μ x ts v vs P r hx h c Q q => by
  unfold mInsert at c
  split at c
  · rename_i t y
    obtain ⟨w, z, rfl, tw, tz⟩ := trs2 h
    have tw' := nm_ok r tw
    split at c
    · rename_i i e
      rw [e] at tw'
      cases tr_int tw'
      obtain ⟨n, xs, a, ys, rfl, hn, hi, rfl, hg, hh, tx, k1, k2, k3, k4⟩ := onL_ok r hx c
      obtain ⟨r2, e2⟩ := lst_put (zs := xs.take i.toNat ++ [y] ++ xs.drop i.toNat) (ws := ys.take i.toNat ++ [z] ++ ys.drop i.toNat) r hi hg (((tx.take _).append (.cons tz .nil)).append (tx.drop _))
      exact ⟨a, ys, i, z, rfl, rfl, hh, by rw [← tx.len]; exact k1, k2, k3, q _ _ _ _ e2 r2 mk_none k4⟩
    · exact c.elim
  · exact c.elim
/-! ### a text times an int -/
end
/-! ### a call by names alone -/
structure DefK (P : Program) (w : World) (K : PySem.W.Frag) (mg : Str → Option Value) (base : Heap) (x : Str) (ks : List Str) (k : Nat) (dsp : DSp) : Prop where
  ex : ∃ (f : Addr) (fd : FuncData) (ps : List Str), FnG P w K mg base k f fd ps (toSp K dsp) ∧ mg x = some (.ref f) ∧ PySem.W.keepIn K (.ref f) = true ∧ KBn K fd ps 0 ks (fun us ws => us ++ ws) (fun vs zs => vs ++ zs)
structure JK (X : Cx) (W : WX) (es : List Keyword) (w : WpA) : Prop where
  ex : ∃ ta, PK X es ta ∧ SnA X.K W ta w
section
variable {X : Cx} {W : WX} {e : Expr} {kws : List Keyword} {wa : WpE} {wr w : WpA} {nm : Option Str} {kpos : Pos}
theorem jk_nil : JK X W [] wNil := ⟨_, pk_nil, fun s μ env σ P PX r en h th Q q => q s [] [] μ (Ext.refl s) r .nil h⟩
theorem jk_cons (ha : JE X W e wa) (hr : JK X W kws wr) : JK X W (⟨nm, e, kpos⟩ :: kws) (wCons wa wr) := by
  obtain ⟨_, pa, sa⟩ := ha
  obtain ⟨_, pr, sr⟩ := hr
  refine ⟨_, pk_cons pa pr, fun s μ env σ P PX r en h th Q q => ?_⟩
  refine sa s μ env σ _ PX r en h th _ fun s1 v t μ1 e1 r1 t1 h1 => ?_
  exact sr s1 μ1 env σ _ PX r1 (en.up e1) h1 (th.up e1) _ fun s2 vs ts μ2 e2 r2 t2 h2 => q s2 (v :: vs) (t :: ts) μ2 (e1.trans e2) r2 (.cons (t1.up e2) t2) h2
theorem run_fnKG {k : Nat} {f : Addr} {fd : FuncData} {ps ks : List Str} {sp : Sp} {E : St → XK} {pins : List (Addr × Obj)} {σ : St} {H : Hp} {s : Shared} {Q : VK} {ws : List Value} {zs : List V} (F : FnG X.prog X.w X.K X.mg X.base k f fd ps sp) (hr : Room k X.A) (hg : X.A.guards = some [])
    (hb : KBn X.K fd ps 0 ks (fun us ws => us ++ ws) (fun vs zs => vs ++ zs)) (hx : PassesAt (L2.CX X.prog X.w) X σ (E σ)) (I : Inv X pins σ H s) (r : Vals zs ws) (l : zs.length = ks.length) (h : sp zs H Q (E σ)) :
    wpAny (model X.prog X.w) X.A (call (.ref f) [] (ks.zip ws)) (EP X pins σ Q) X.xe s := by
  have b := hb.to s [] ws I.kIn rfl (r.length.symm.trans l)
  refine wpAny_call (codeAny_mono (F.run X.A X.stack s H ⟨[], ks.zip ws⟩ ws zs Q (E σ) hr hg I.env0 b r h) fun r s' hq => ?_)
  cases r with
  | error e => exact hx pins H s e s' I hq
  | ok fl =>
    cases fl with
    | ret u => exact I.after hq
    | next => exact False.elim hq
    | brk => exact False.elim hq
    | cont => exact False.elim hq
theorem callD_len {μ : Mu} {P : KT} {PX : KX} {n : Nat} {d : DSp} {ts : List T} (h : callD (Dn n d) ts μ P PX) : ts.length = n := by
  obtain ⟨μf, _, V, ts0, μ0, _, c⟩ := h
  have h0 : ts0.length = n := by rcases c with ⟨_, hd⟩ | ⟨_, hd⟩ <;> exact hd.1
  have hl : (ts).length = ts0.length := by
    rcases c with ⟨et, _⟩ | ⟨et, _⟩
    · have := congrArg List.length et
      simpa using this
    · have := Paired.length et
      simpa using this
  exact hl.trans h0
theorem je_defK {k k' : Nat} {dsp : DSp} {x : Str} {p pos : Pos} {ks : List Str} (B : DefK X.prog X.w X.K X.mg X.base x ks k (Dn ks.length dsp)) (hr : Room k' X.A) (hgd : X.A.guards = some []) (tk : Takes X W)
    (ha : JK X W kws w) (hk : k ≤ k' := by decide) (hg : Gl X x := by rfl) (hall : (backToKw pos (keywordEach kws X.env)).all (·.1.isSome) = true := by rfl) (hks : (backToKw pos (keywordEach kws X.env)).filterMap (·.1) = ks := by rfl)
    (hdb : (x == ("__debug__" : Str)) = false := by decide) (hpl : ((backTo pos (starEach [] X.env)).any (·.1) || (backToKw pos (keywordEach kws X.env)).any (·.1.isNone)) = false := by rfl) :
    JE X W (.Call (.Name x p) [] kws pos) (wCall (Dn ks.length dsp) w) := by
  obtain ⟨f, fd, ps, F, hm, hkp, hb⟩ := B.ex
  obtain ⟨ta, pa, sa⟩ := ha
  refine ⟨fun σ H Q => ta σ H fun zs H2 => zs.length = ks.length ∧ toSp X.K (Dn ks.length dsp) zs H2 Q (L2.WE W σ), ⟨fun pins s σ H Q I h => ?_⟩, fun s μ env σ P PX r en hw th Q q => ?_⟩
  · refine wpAny_Call_Name_kw (ld_glob I hg hm ?_ hdb)
    refine PySem.W.callWith_KW0 (h₀ := X.base) I.ok.mod.kin hkp hall ?_ hpl
    refine thn (pa.run pos pins s σ H _ I h) fun ws s2 ⟨zs, H2, I2, rz, l, q2⟩ => ⟨I2.kIn, ?_⟩
    rw [hks]
    exact run_fnKG F (hr.mono hk) hgd hb (passAt tk σ) I2 rz l q2
  · refine sa s μ env σ _ PX r en hw th _ fun s1 vs ts μ1 e1 r1 t1 h1 => ⟨?_, ?_⟩
    · rw [← t1.len]
      exact callD_len h1
    · exact callD_ok r1 t1 h1 (th.up e1) fun s2 v t μ2 e2 r2 t2 h2 => q s2 v t μ2 (e1.trans e2) r2 t2 h2
end
end DL
/-! DL16: sorted(set(texts)). -/
namespace DL
open PySem PySem.Spec L2 PyProof.Rows PySem.Froz
section
variable {P : Program} {w : World} {A : Around} {E : Value → Shared → Prop} {s : Shared}
/-- the set of texts at a: its members are l, each once -/
structure TxR (P : Program) (w : World) (h : Heap) (a : Addr) (l : List Str) : Prop where
  ex : ∃ D : PySem.Froz.SD, h.get? a = some (sObj "set" D) ∧ TxOk P w D l ∧ Ris D.2.2.place.toList ∧ (w.params.followText "set-order" = true ∨ D.2.2.led = true)
  nd : l.Nodup
theorem TxR.at {h h' : Heap} {a : Addr} {l : List Str} (R : TxR P w h a l) (k : ∀ o, h.get? a = some o → h'.get? a = some o) : TxR P w h' a l := by
  obtain ⟨⟨D, h1, h2⟩, nd⟩ := R
  exact ⟨⟨D, k _ h1, h2⟩, nd⟩
theorem tail_ris {ep : Nat} {es : Array (Int × Value)} {t : SetTable} {b : Bool} (r : Ris t.place.toList) : Ris (tailTx ep es t b).2.2.place.toList ∧ (tailTx ep es t b).2.2.led = t.led := by
  unfold tailTx
  split
  · exact ⟨relayAll_ris t es _, relayAll_led t es _⟩
  · exact ⟨r, rfl⟩
theorem add_ris {h : Int} {v : Value} {D : PySem.Froz.SD} (r : Ris D.2.2.place.toList) : Ris (addTx h v D).2.2.place.toList ∧ (addTx h v D).2.2.led = D.2.2.led := by
  unfold addTx
  have r1 := layNew_ris D.2.2 D.1 h v r
  have l1 := layNew_led D.2.2 D.1 h v
  by_cases c : (layNew D.2.2 D.1 h v).2.1.plain = true
  · rw [if_pos c]
    have q := tail_ris (ep := D.2.1) (es := (layNew D.2.2 D.1 h v).1) (t := { (layNew D.2.2 D.1 h v).2.1 with plain := false }) (b := (layNew D.2.2 D.1 h v).2.2.1) r1
    exact ⟨q.1, q.2.trans l1⟩
  · rw [if_neg c]
    have q := tail_ris (ep := D.2.1) (es := (layNew D.2.2 D.1 h v).1) (t := (layNew D.2.2 D.1 h v).2.1) (b := (layNew D.2.2 D.1 h v).2.2.1) r1
    exact ⟨q.1, q.2.trans l1⟩
/-- the add of a text that is there already -/
theorem add_old {a : Addr} {D : PySem.Froz.SD} {l : List Str} {k : Str} {u : Tok} {Q : Bool → Shared → Prop} (ho : s.heap.get? a = some (sObj "set" D)) (F : TxOk P w D l) (hk : k ∈ l) (hb : l.length < scanBound)
    (h : Q false s) : wpAny (model P w) A (setAddHashed a (.str k u) (hashStr w k)) Q E s := by
  obtain ⟨es, ep, t⟩ := D
  have hd : (sObj "set" (es, ep, t)).data = .set es ep t := rfl
  have hf : t.fits es.size = true := F.fit
  have hel : ElemsOf (strKind P w) es.toList := F.el
  have hsz : es.size = l.length := F.sz
  have hb0 : es.size < scanBound := by omega
  have hkey : (strKind P w).is k (.str k u) = true := is_str k u
  unfold setAddHashed setAddHashedIn
  refine wpAny_holding (wpAny_bind (wpAny_setState_of ho hd hf ?_))
  dsimp only
  rw [byScan_of rfl hb0 hel]
  simp only [↓reduceIte]
  unfold setAddByScan
  refine wpAny_bind ?_
  refine wpAny_bind (wpAny_rule ?_)
  refine wpAny_bind (wpAny_setScan_of (knd := strKind P w) (k := k) hkey ho hd hf hel ?_)
  cases hr : List.findIdx? (fun e => (strKind P w).is k e.2) es.toList with
  | some j =>
    dsimp only
    exact wpAny_pure (wpAny_pure h)
  | none =>
    obtain ⟨e, he, q⟩ := (F.mem k).mp hk
    have c := List.findIdx?_eq_none_iff.mp hr e he
    rw [q] at c
    cases c
/-- the members behind an add -/
def addL (k : Str) (l : List Str) : List Str := if k ∈ l then l else k :: l
theorem addL_mem {k x : Str} {l : List Str} : x ∈ addL k l ↔ x = k ∨ x ∈ l := by
  unfold addL
  split
  · rename_i h
    exact ⟨.inr, fun z => z.elim (fun e => e ▸ h) id⟩
  · exact List.mem_cons
theorem addL_len (k : Str) (l : List Str) : (addL k l).length ≤ l.length + 1 := by
  unfold addL
  split <;> simp
theorem txr_add {a : Addr} {l : List Str} {k : Str} {u : Tok} {Q : Bool → Shared → Prop} (R : TxR P w s.heap a l) (hb : l.length + 1 < scanBound)
    (h : ∀ (b : Bool) h', Heap.SameBut a s.heap h' → TxR P w h' a (addL k l) → Q b { s with heap := h' }) : wpAny (model P w) A (setAddHashed a (.str k u) (hashStr w k)) Q E s := by
  obtain ⟨⟨D, ho, F, hr, hl⟩, nd⟩ := R
  by_cases hk : k ∈ l
  · refine add_old ho F hk (by omega) ?_
    have e : addL k l = l := by unfold addL; rw [if_pos hk]
    exact h false s.heap (Heap.SameBut.refl a s.heap) (by rw [e]; exact ⟨⟨D, ho, F, hr, hl⟩, nd⟩)
  · refine add_x ho F hk hb ?_
    have e : addL k l = k :: l := by unfold addL; rw [if_neg hk]
    have q := add_ris (h := hashStr w k) (v := .str k u) hr
    refine h true _ (Heap.SameBut.update s.heap a _) ?_
    rw [e]
    exact ⟨⟨_, get_upd _ ho rfl, add_ok u F, q.1, hl.imp id fun z => q.2.trans z⟩, List.nodup_cons.mpr ⟨hk, nd⟩⟩
/-- members after the adds of texts, one by one -/
def addsL : List Str → List Str → List Str
  | [], l => l
  | k :: r, l => addsL r (addL k l)
theorem addsL_mem : ∀ {ks l : List Str} {x : Str}, x ∈ addsL ks l ↔ x ∈ ks ∨ x ∈ l
  | [], l, x => by simp [addsL]
  | k :: r, l, x => by
    rw [addsL, addsL_mem, addL_mem, List.mem_cons]
    constructor
    · rintro (h | h | h)
      · exact .inl (.inr h)
      · exact .inl (.inl h)
      · exact .inr h
    · rintro ((h | h) | h)
      · exact .inr (.inl h)
      · exact .inl h
      · exact .inr (.inr h)
theorem addsL_len : ∀ (ks l : List Str), (addsL ks l).length ≤ l.length + ks.length
  | [], l => by simp [addsL]
  | k :: r, l => by
    have a := addsL_len r (addL k l)
    have b := addL_len k l
    rw [addsL, List.length_cons]
    omega
theorem addsL_nd : ∀ (ks l : List Str), l.Nodup → (addsL ks l).Nodup
  | [], l, h => h
  | k :: r, l, h => by
    rw [addsL]
    refine addsL_nd r _ ?_
    unfold addL
    split
    · exact h
    · rename_i q
      exact List.nodup_cons.mpr ⟨q, h⟩
theorem addsL_snoc : ∀ (ks l : List Str) (k : Str), addsL (ks ++ [k]) l = addL k (addsL ks l)
  | [], l, k => rfl
  | j :: r, l, k => addsL_snoc r (addL j l) k
theorem tx_update {I : Addr} {fp wr : List Addr} {G : Array GenState → Array GenState → Prop} {n : Nat} {Pv : Nat → Value → Prop} {St : Nat → Shared → Prop} {R : Result → Shared → Prop}
    (Wk : WalksS P w A.in1 I fp wr G n Pv St) (S : Addr) (hSf : S ∉ fp) (ks : List Str) (hn : n = ks.length) (hb : ks.length + 1 < scanBound) (hval : ∀ i v, Pv i v → ∃ k t, ks[i]? = some k ∧ v = .str k t) :
    ∀ (m i : Nat) (s : Shared), n - i = m → i ≤ n → St i s → TxR P w s.heap S (addsL (ks.take i) []) →
      (∀ s', Moved (S :: wr) G s s' → TxR P w s'.heap S (addsL ks []) → R (.ok (.ret .none)) s') →
      codeAny (model P w) A (.builtin "set.update.loop" ⟨[.ref S, .ref I], []⟩) R s := by
  have hSw : S ∉ wr := fun h => hSf (Wk.sub _ h)
  have hsub : ∀ b ∈ wr, b ∈ S :: wr := fun b hb => List.mem_cons_of_mem _ hb
  intro m
  induction m with
  | zero =>
    intro i s hm hi hst hS hR
    have hin : i = n := by omega
    subst hin
    refine codeAny_builtin F.entry_set_update_loop ?_
    rw [Around.under_plainId F.plain_set_update_loop _]
    show wpAny _ A.in1 (pyNext (.ref I) >>= _) _ _ s
    refine wpAny_bind (Wk.done s _ _ hst fun s' hm => ?_)
    show wpAny _ A.in1 (ret Value.none) _ _ s'
    have e : ks.take i = ks := List.take_of_length_le (by omega)
    rw [e] at hS
    exact wpAny_pure (hR s' (hm.mono hsub) (hS.at fun o e => hm.heap S o hSw e))
  | succ m ih =>
    intro i s hm hi hst hS hR
    have hlt : i < n := by omega
    refine codeAny_builtin F.entry_set_update_loop ?_
    rw [Around.under_plainId F.plain_set_update_loop _]
    show wpAny _ A.in1 (pyNext (.ref I) >>= _) _ _ s
    refine wpAny_bind (Wk.item i s _ _ hlt hst fun v s' hP hst' hm' => ?_)
    obtain ⟨z, t, hz, rfl⟩ := hval i v hP
    have hS' : TxR P w s'.heap S (addsL (ks.take i) []) := hS.at fun o e => hm'.heap S o hSw e
    have hlen : (addsL (ks.take i) []).length ≤ i := by
      have q := addsL_len (ks.take i) []
      have q2 := List.length_take_le i ks
      simp at q
      omega
    show wpAny _ A.in1 (holding [Value.str z t] (setAdd S (.str z t)) >>= _) _ _ s'
    refine wpAny_bind (wpAny_holding ?_)
    unfold setAdd
    refine wpAny_holding ?_
    refine wpAny_bind ((strKind P w).pyHash (k := z) (is_str z t) ?_)
    refine txr_add (s := { s' with toks := s'.toks + 1 }) hS' (by omega) fun b h' hsb hS2 => ?_
    have hS3 : TxR P w h' S (addsL (ks.take (i + 1)) []) := by
      rw [List.take_add_one, hz]
      show TxR P w h' S (addsL (ks.take i ++ [z]) [])
      rw [addsL_snoc]
      exact hS2
    refine wpAny_pure ⟨plainId_quiet F.plain_set_update_loop _, ih (i + 1) _ (by omega) hlt (Wk.frame _ s' _ _ hst' (Nat.le_succ _) fun b hb o e => ?_) hS3 fun s'' hm'' hS'' => ?_⟩
    · rw [hsb.2 b (fun h : b = S => hSf (by rw [← h]; exact hb))]; exact e
    · refine hR s'' (Moved.trans Wk.gtrans ((hm'.mono hsub).then_heap (Nat.le_succ _) fun b o hb e => ?_) hm'') hS''
      rw [hsb.2 b (fun h : b = S => hb (by rw [h]; exact List.mem_cons_self))]; exact e
/-- an empty set's object -/
abbrev set0 (w : World) : Obj := { cls := .type "set", dict := none, data := .set #[] 0 (.fresh 0 0 (!w.params.followText "set-order")) }
theorem txr_new {h : Heap} {a : Addr} (ho : h.get? a = some (set0 w)) : TxR P w h a [] :=
  ⟨⟨(#[], 0, .fresh 0 0 (!w.params.followText "set-order")), ho, TxOk.nil rfl, List.Pairwise.nil, by
    show _ ∨ (!w.params.followText "set-order") = true
    cases w.params.followText "set-order"
    · exact .inr rfl
    · exact .inl rfl⟩, List.nodup_nil⟩
/-! ### sorted of it -/
theorem perm_of_sub {α : Type} [DecidableEq α] : ∀ (l m : List α), l.Nodup → (∀ x ∈ l, x ∈ m) → m.length ≤ l.length → l.Perm m
  | [], m, _, _, h => by
    have e : m = [] := List.length_eq_zero_iff.mp (by simpa using h)
    rw [e]
  | x :: l, m, nd, hs, h => by
    obtain ⟨n1, n2⟩ := List.nodup_cons.mp nd
    have hx : x ∈ m := hs x List.mem_cons_self
    have p := List.perm_cons_erase hx
    have e := List.length_erase_of_mem hx
    have hp : 0 < m.length := List.length_pos_of_mem hx
    refine (List.Perm.cons x (perm_of_sub l (m.erase x) n2 (fun y hy => ?_) (by rw [List.length_cons] at h; omega))).trans p.symm
    exact (List.mem_erase_of_ne fun z : y = x => n1 (by rw [← z]; exact hy)).2 (hs y (List.mem_cons_of_mem _ hy))
def keyS : Value → Str
  | .str k _ => k
  | _ => Str.empty
theorem is_keyS {k : Str} {v : Value} (h : (strKind P w).is k v = true) : ∃ t, v = .str k t := by
  have h : Value.isStrOf k v = true := h
  cases v <;> simp [Value.isStrOf] at h
  subst h
  exact ⟨_, rfl⟩
theorem strs_keys : ∀ vs : List Value, (∀ v ∈ vs, ∃ k t, v = .str k t) → StrsAre vs (vs.map keyS)
  | [], _ => .nil
  | v :: vs, h => by
    obtain ⟨k, t, rfl⟩ := h v List.mem_cons_self
    exact .cons k t (strs_keys vs fun u hu => h u (List.mem_cons_of_mem _ hu))
theorem sorted_txr {a : Addr} {l : List Str} {Q : Value → Shared → Prop} (R : TxR P w s.heap a l) (hh : A.handled = none) (hb : l.length < scanBound)
    (hQ : ∀ s' p (out : Array Value) (c : Nat) (ys : List Str), (∀ b o, s.heap.get? b = some o → s'.heap.get? b = some o) → s'.gens = s.gens → s'.os = s.os → s.heap.objs.size ≤ p →
      s'.heap.get? p = some (seqObj "list" out c) → StrsAre out.toList ys → ys.Perm l → sortedS ys = true → Q (.ref p) s') :
    wpAny (model P w) A (call (.builtin "sorted") [.ref a]) Q E s := by
  obtain ⟨⟨⟨es, ep, t⟩, ho, F, hr, hl⟩, nd⟩ := R
  have hel : ElemsOf (strKind P w) es.toList := F.el
  have hsz : es.size = l.length := F.sz
  have hf : t.fits es.size = true := F.fit
  have hmem : ∀ k : Str, k ∈ l ↔ ∃ e ∈ es.toList, (strKind P w).is k e.2 = true := F.mem
  have hr : Ris t.place.toList := hr
  have hl : w.params.followText "set-order" = true ∨ t.led = true := hl
  refine Calls.call_function_entry kind_sorted plain_sorted entry_sorted (args_sorted1 _) ?_
  unfold Builtin.«sorted»
  refine wpAny_bind (m := checkCount "sorted" 1 1 _) (wpAny_pure ?_)
  refine wpAny_bind (collect_set (A := A.in1) hh ⟨_, ho, rfl, rfl⟩ hf (by show es.size < scanBound; omega) hr hl fun s1 vs k1 hz g1 o1 pm => ?_)
  have hvl : vs.length = l.length := by rw [pm.length_eq, List.length_map, Array.length_toList]; exact hsz
  have hv : ∀ v ∈ vs, ∃ k tk, v = Value.str k tk := fun v hv => by
    obtain ⟨e, he, q⟩ := List.mem_map.mp (pm.mem_iff.mp hv)
    obtain ⟨⟨k, h1, _⟩, _⟩ := hel e he
    obtain ⟨tk, h2⟩ := is_keyS h1
    exact ⟨k, tk, by rw [← q]; exact h2⟩
  have hI : StrsAre vs (vs.map keyS) := strs_keys vs hv
  have pk : (vs.map keyS).Perm l := (perm_of_sub l _ nd (fun k hk => by
    obtain ⟨e, he, q⟩ := (hmem k).mp hk
    obtain ⟨tk, h2⟩ := is_keyS q
    exact List.mem_map.mpr ⟨e.2, pm.mem_iff.mpr (List.mem_map.mpr ⟨e, he, rfl⟩), by rw [h2]; rfl⟩) (by rw [List.length_map]; omega)).symm
  have hL : vs.length ≤ sizeLine := by rw [hvl]; exact fits_of_scanBound hb
  refine wpAny_bind (wpAny_newList ?_ hL)
  have hoL : (s1.heap.push (seqObj "list" vs.toArray 0)).get? s1.heap.objs.size = some (seqObj "list" vs.toArray 0) := Heap.get?_push_size _ rfl
  refine wpAny_bind (wpAny_holding (wpAny_call_entry slot_list_sort ⟨_, hoL, rfl⟩ entry_list_sort (list_sort_treeKAny strKind_oneLt hoL hI.keysOf (fun v₁ v₂ rest e => keyKind_strs (by rw [← e]; exact hI)) hL fun st' a1 a2 => ⟨_, rfl, ?_⟩) (args_list_sort _)))
  obtain ⟨ys, h1, h2, h3⟩ := sorted_out_str hI a1 a2
  obtain ⟨c, hc⟩ := sortedHeap_at (vs := vs) (out := (arrOf st').map (·.2)) hoL
  refine wpAny_pure ⟨_, rfl, hQ _ s1.heap.objs.size _ c ys (fun b u e => ?_) g1 o1 hz hc h1 (h2.trans pk) h3⟩
  have q := k1 b u e
  have hlt := Heap.lt_size q
  show (sortedHeap (s1.heap.push (seqObj "list" vs.toArray 0)) s1.heap.objs.size vs _).get? b = some u
  rw [sortedHeap_old (Nat.ne_of_lt hlt) (by rw [size_push']; exact Nat.lt_succ_of_lt hlt)]
  exact Heap.get?_push_of_some _ q
end
end DL
/-! DL17: sorted(set(texts)) as an expression; classes of one's own: made, asked, their special methods. -/
namespace DL
open PySem PySem.Spec L2 PyProof.Rows PySem.Froz
section
variable {X : Cx} {W : WX}
/-- its reading -/
def wSortSet (w : WpE) : WpE := fun env μ P PX => w env μ (fun t μ1 => match rdL μ1 t with
  | some ts => match strsT μ1 ts with
    | some xs => xs.length < 4000 ∧ ∀ ys : List Str, ys.Nodup → (∀ k, k ∈ ys ↔ k ∈ xs) → sortedS ys = true → P (.loc μ1.length) (μ1 ++ [.lst (ys.map fun y => .dat (.str y))])
    | none => False
  | none => False) PX
end
end DL
/-! DL18: classes of one's own: made, asked, their special methods; stars in displays; xs[::-1]. -/
namespace DL
open PySem PySem.Spec L2
section
variable {X : Cx} {W : WX} {k k' : Nat} {C : Addr} {dsp : DSp} {x m : Str} {p pos apos : Pos} {e o : Expr} {es : List Expr} {kws : List Keyword} {wo we : WpE} {wa w wr : WpA} {ks : List Str}
/-! ### by names alone -/
/-! ### len(o), o + u by special methods of one's own -/
/-! ### stars in displays -/
def wStarA (we : WpE) (wr : WpA) : WpA := fun env μ P PX => we env μ (fun t μ1 => match rdQ μ1 t with
  | some xs => wr env μ1 (fun ys μ2 => P (xs ++ ys) μ2) PX
  | none => False) PX
/-! ### xs[::-1] of a list -/
def wRev (we : WpE) : WpE := fun env μ P PX => we env μ (fun t μ1 => match rdL μ1 t with
  | some ts => mkL ts.reverse μ1 P
  | none => False) PX
/-! ### isinstance(o, C), o an instance of it -/
end
end DL
/-! DL19: a walk over a list, a tuple or a text, told by the value; three stores at once; tuples joined, also empty ones. -/
namespace DL
open PySem PySem.Spec L2
def iAny (K : PySem.W.Frag) (tl : TE) : TI := fun σ H R => tl σ H fun x H1 => ((∃ a, x = .ref a ∧ (∃ xs, SqL K H1 a xs) ∧ R (Itl K a) H1) ∨ (∃ a, x = .ref a ∧ (∃ xs, SqT K H1 a xs) ∧ R (Itt K a) H1)) ∨ ∃ z, x = .str z ∧ R (Its z) H1
section
variable {X : Cx} {W : WX} {e tg : Expr} {w : WpE}
theorem pi_any {l : Expr} {tl : TE} (hl : PE X l tl) : PI X tg l (iAny X.K tl) := by
  refine ⟨fun pins s σ H R I h => ?_⟩
  refine thn (hl.run pins s σ H _ I h) fun v s1 ⟨x, H1, I1, r1, q1⟩ => ?_
  rcases q1 with (⟨a, e, ⟨xs, hq⟩, q⟩ | ⟨a, e, ⟨xs, hq⟩, q⟩) | ⟨z, e, q⟩
  · subst e
    cases r1
    obtain ⟨its, rv, p, hz⟩ := I1.list hq
    refine wpAny_pyIter_list p.isList ?_
    refine ⟨s1.heap.objs.size, [s1.heap.objs.size], _, _, H1, rfl, I1.kept (t' := s1.toks) fun b o e => Heap.get?_push_of_some _ e, turn_list a _, ⟨_, Heap.get?_push_size _ rfl, rfl, rfl⟩, fun b hb => ?_, q⟩
    have e : b = s1.heap.objs.size := by simpa using hb
    subst e
    exact I1.fpOk (Nat.le_refl _) (I1.hok.fresh (Nat.le_refl _))
  · subst e
    cases r1
    obtain ⟨its, rv, p, hz⟩ := I1.tuple hq
    refine wpAny_pyIter_tuple (show s1.heap.IsTuple a its.toArray from p) ?_
    refine ⟨s1.heap.objs.size, [s1.heap.objs.size], _, _, H1, rfl, I1.kept (t' := s1.toks) fun b o e => Heap.get?_push_of_some _ e, turn_tuple a _, ⟨_, Heap.get?_push_size _ rfl, rfl, rfl⟩, fun b hb => ?_, q⟩
    have e : b = s1.heap.objs.size := by simpa using hb
    subst e
    exact I1.fpOk (Nat.le_refl _) (I1.hok.fresh (Nat.le_refl _))
  · subst e
    obtain ⟨t, rfl⟩ := r1
    cases ha : z.cps.all (· < 128)
    · exact wpAny_pyIter_wide ha (pi_one (tk := s1.toks) I1 _ (turn_str _ z t "str_iterator" (.inr rfl)) ⟨_, Heap.get?_push_size _ rfl, rfl, rfl⟩ q)
    · exact wpAny_pyIter_ascii ha (pi_one (tk := s1.toks) I1 _ (turn_str _ z t "str_ascii_iterator" (.inl rfl)) ⟨_, Heap.get?_push_size _ rfl, rfl, rfl⟩ q)
def wiA (w : WpE) : WpI := fun env μ P PX => w env μ (fun t μ1 => match rdL μ1 t with
  | some ts => P (itL t ts) μ1
  | none => match rdT μ1 t with
    | some ts => P (itT t ts) μ1
    | none => match nm μ1 t with
      | .dat (.str z) => P (itS z) μ1
      | _ => False) PX
theorem snI_any {K : PySem.W.Frag} {tl : TE} (h : SnE K W tl w) : SnI K W (iAny K tl) (wiA w) := fun s μ env σ P PX r en hw th R q => by
  refine h s μ env σ _ PX r en hw th _ fun s1 v t μ1 e1 r1 t1 h1 => ?_
  split at h1
  · rename_i ts et
    obtain ⟨a, xs, rfl, hs, _⟩ := rdL_ok r1 t1 et
    refine .inl (.inl ⟨a, rfl, ⟨xs, hs⟩, q s1 _ (itL t ts) μ1 e1 r1 ⟨fun s μ e r k => ?_, fun s μ i e r k lt => ?_, fun s μ i P e r k lt hp x H' y => ?_⟩ h1⟩)
    · obtain ⟨b, ys, eb, hb, tb⟩ := rdL_ok r (t1.up e) k
      cases eb
      exact ⟨ys, hb, Nat.le_of_eq tb.len.symm⟩
    · obtain ⟨b, ys, eb, hb, tb⟩ := rdL_ok r (t1.up e) k
      cases eb
      have lt' : i < ys.length := by rw [← tb.len]; exact lt
      exact ⟨ys, ys[i], hb, by simp [lt']⟩
    · obtain ⟨b, ys, eb, hb, tb⟩ := rdL_ok r (t1.up e) k
      cases eb
      obtain ⟨rfl, hy⟩ := y
      obtain ⟨t', et', hp⟩ := hp
      obtain ⟨v', ev', tv'⟩ := tb.get et'
      have := hy ys hb
      rw [this] at ev'
      cases ev'
      exact ⟨s, t', μ, rfl, Ext.refl s, r, tv', hp⟩
  · split at h1
    · rename_i ts et
      obtain ⟨a, xs, rfl, hs, _⟩ := rdT_ok r1 t1 et
      refine .inl (.inr ⟨a, rfl, ⟨xs, hs⟩, q s1 _ (itT t ts) μ1 e1 r1 ⟨fun s μ e r k => ?_, fun s μ i e r k lt => ?_, fun s μ i P e r k lt hp x H' y => ?_⟩ h1⟩)
      · obtain ⟨b, ys, eb, hb, tb⟩ := rdT_ok r (t1.up e) k
        cases eb
        exact ⟨ys, hb, Nat.le_of_eq tb.len.symm⟩
      · obtain ⟨b, ys, eb, hb, tb⟩ := rdT_ok r (t1.up e) k
        cases eb
        have lt' : i < ys.length := by rw [← tb.len]; exact lt
        exact ⟨ys, ys[i], hb, by simp [lt']⟩
      · obtain ⟨b, ys, eb, hb, tb⟩ := rdT_ok r (t1.up e) k
        cases eb
        obtain ⟨rfl, hy⟩ := y
        obtain ⟨t', et', hp⟩ := hp
        obtain ⟨v', ev', tv'⟩ := tb.get et'
        have := hy ys hb
        rw [this] at ev'
        cases ev'
        exact ⟨s, t', μ, rfl, Ext.refl s, r, tv', hp⟩
    · split at h1
      · rename_i z ez
        have t2 := nm_ok r1 t1
        rw [ez] at t2
        cases tr_str t2
        refine .inr ⟨z, rfl, q s1 _ (itS z) μ1 e1 r1 ?_ h1⟩
        exact ⟨fun s μ e r k => Nat.le_refl _, fun s μ i e r k lt => lt, fun s μ i P e r k lt hp x H' y => by
          obtain ⟨c, hc, hp⟩ := hp
          obtain ⟨rfl, y⟩ := y
          exact ⟨s, _, μ, rfl, Ext.refl s, r, (by
            first
              | (obtain ⟨c2, h2, rfl⟩ := y; rw [hc] at h2; cases h2; exact mk_str _)
              | (have z2 := y; rw [hc] at z2; cases z2; exact mk_str _)), hp⟩⟩
      · exact h1.elim
theorem ji_any (h : JE X W e w) : JI X W tg e (wiA w) := by
  obtain ⟨_, p, s⟩ := h
  exact ⟨_, pi_any p, snI_any s⟩
/-- a, b, c = x, y, z of three plain locals -/
def wPar3 (i j k : Nat) (wa : WpA) : WpS := fun D env μ => wa env μ (fun ts μ' => match ts with
  | [t, u, v] => D.nx (((env.set i (some t)).set j (some u)).set k (some v)) μ'
  | _ => False) (D.px env)
theorem js_par3 {i j k : Nat} {x y z : Str} {a b c : Expr} {px py pz pt pos : Pos} {kt k2 pt2} {wa : WpA} (hc : X.calm = true) (hN : X.N.Nodup) (hij : i ≠ j) (hik : i ≠ k) (hjk : j ≠ k) (ha : JA X W [a, b, c] wa) (hi : X.N[i]? = some x := by rfl) (hj : X.N[j]? = some y := by rfl) (hk : X.N[k]? = some z := by rfl)
    (hx : X.env.scope.names.lookup x = some .local := by rfl) (hy : X.env.scope.names.lookup y = some .local := by rfl) (hz : X.env.scope.names.lookup z = some .local := by rfl)
    (hw : swappedStores [.Tuple [.Name x px, .Name y py, .Name z pz] kt pt] (.Tuple [a, b, c] k2 pt2) X.env = pure (some [x, y, z]) := by rfl)
    (hs : swapsWithSole [.Tuple [.Name x px, .Name y py, .Name z pz] kt pt] (.Tuple [a, b, c] k2 pt2) pos.line X.env = pure false := by rfl) : JS X W (.Assign [.Tuple [.Name x px, .Name y py, .Name z pz] kt pt] (.Tuple [a, b, c] k2 pt2) pos) (wPar3 i j k wa) := by
  obtain ⟨_, p, sn⟩ := ha
  refine ⟨_, ps_par3 hc hN hi hj hk hij hik hjk hx hy hz p hw hs, fun s μ env σ D E r en h l => ?_⟩
  refine sn s μ env σ _ _ r en h (l.thr en) _ fun s1 vs ts μ1 e1 r1 t1 h1 => ?_
  split at h1
  · rename_i t u v
    cases t1 with
    | cons a1 t1 =>
      cases t1 with
      | cons a2 t1 =>
        cases t1 with
        | cons a3 t1 =>
          cases t1
          exact ⟨_, _, _, rfl, l.nx s1 μ1 _ _ e1 r1 (EnR.set a3 k (EnR.set a2 j (EnR.set a1 i (en.up e1)))) h1⟩
  · exact h1.elim
end
end DL
/-! DL20: tuples joined, also empty ones; a row that is never come to. -/
namespace PyProof.Rows
open PySem PySem.SeqAt
open AutoSeq1 (wpAny_loadPart')
end PyProof.Rows
namespace DL
open PySem PySem.Spec L2
def wChain (o o' : OD) (wa wb wc : WpE) : WpE := fun env μ P PX => wa env μ (fun x μ1 => wb env μ1 (fun y μ2 => o x y μ2 (asB fun k μ3 => if k = true then wc env μ3 (fun z μ4 => o' y z μ4 P) PX else P (.dat (.bool false)) μ3)) PX) PX
theorem sn_chain {K : PySem.W.Frag} {W : WX} {r r' : R2} {o o' : OD} {ta tb tc : TE} {wa wb wc : WpE} (so : SnO K r o) (so' : SnO K r' o') (ha : SnE K W ta wa) (hb : SnE K W tb wb) (hc : SnE K W tc wc) : SnE K W (tChain r r' ta tb tc) (wChain o o' wa wb wc) := fun s μ env σ P PX rl en h th Q q => by
  refine ha s μ env σ _ PX rl en h th _ fun s1 v x μ1 e1 r1 x1 h1 => ?_
  refine hb s1 μ1 env σ _ PX r1 (en.up e1) h1 (th.up e1) _ fun s2 u y μ2 e2 r2 y2 h2 => ?_
  refine so s2 μ2 x y v u _ r2 (x1.up e2) y2 h2 _ fun s3 w t μ3 e3 r3 t3 h3 => ?_
  obtain ⟨k, ek, hk⟩ := asB_ok r3 t3 h3
  refine ⟨k, ek, ?_⟩
  have e123 := (e1.trans e2).trans e3
  cases k with
  | true =>
    rw [if_pos rfl] at hk ⊢
    refine hc s3 μ3 env σ _ PX r3 (en.up e123) hk (th.up e123) _ fun s4 w4 z μ4 e4 r4 z4 h4 => ?_
    exact so' s4 μ4 y z u w4 P r4 ((y2.up e3).up e4) z4 h4 Q fun s5 w5 t5 μ5 e5 r5 t5' h5 => q s5 w5 t5 μ5 ((e123.trans e4).trans e5) r5 t5' h5
  | false =>
    rw [if_neg (by decide)] at hk ⊢
    exact q s3 _ _ μ3 e123 r3 (mk_bool false) hk
section
variable {X : Cx} {W : WX} {a b c : Expr} {wa wb wc : WpE} {pos : Pos} {op op' : CmpOp} {r r' : R2} {o o' : OD}
theorem j_chain (ho : OpR X (compareOp op) r) (so : SnO X.K r o) (ho' : OpR X (compareOp op') r') (so' : SnO X.K r' o') (ha : JE X W a wa) (hb : JE X W b wb) (hc : JE X W c wc) (hm : lastMarks [op, op'] [b, c] = false := by with_unfolding_all rfl) :
    JE X W (.Compare a [op, op'] [b, c] pos) (wChain o o' wa wb wc) := by
  obtain ⟨_, pa, sa⟩ := ha
  obtain ⟨_, pb, sb⟩ := hb
  obtain ⟨_, pc, sc⟩ := hc
  exact ⟨_, pe_chain ho ho' pa pb pc hm, sn_chain so so' sa sb sc⟩
end
end DL
/-! DL21: objects of one's own called; list.index; enumerate. -/
/-! DL22: xs.pop(); == of one's own. -/
/-! DL23: del xs[a:]. -/
/-! DL24: isinstance(o, C) of an own class C: own objects of C or of another class, lists, integers. -/
/-! DL25: a list times a number. -/
namespace DL
open PySem PySem.Spec L2
/-! ### x or y, x and y, not x by truth -/
def wAndT (wa wb : WpE) : WpE := fun env μ P PX => wa env μ (fun x μ1 => match truT μ1 x with
  | some true => wb env μ1 P PX
  | some false => P x μ1
  | none => False) PX
section
variable {X : Cx} {W : WX} {a b e : Expr} {es : List Expr} {pos : Pos} {wa wb w : WpE}
theorem je_andT (ha : JE X W a wa) (hb : JE X W (.BoolOp .And (b :: es) pos) wb) : JE X W (.BoolOp .And (a :: b :: es) pos) (wAndT wa wb) := by
  obtain ⟨_, p, sn⟩ := ha
  obtain ⟨_, p', sn'⟩ := hb
  refine ⟨_, pe_andT p p', fun s μ env σ P PX rl en hw th Q q => ?_⟩
  refine sn s μ env σ _ PX rl en hw th _ fun s1 v t μ1 e1 r1 t1 h1 => ?_
  cases ht : truT μ1 t with
  | none => simp only [ht] at h1
  | some c =>
    simp only [ht] at h1
    refine ⟨c, tru_of r1 t1 ht, ?_⟩
    cases c with
    | true => exact sn' s1 μ1 env σ P PX r1 (en.up e1) h1 (th.up e1) Q fun s2 v2 t2 μ2 e2 r2 x2 h2 => q s2 v2 t2 μ2 (e1.trans e2) r2 x2 h2
    | false => exact q s1 v t μ1 e1 r1 t1 h1
end
end DL
/-! DL26: dicts. -/
namespace DL
open PySem PySem.Spec L2
/-! ### keys, entries -/
def toKey : PyData → Option Key
  | .int i => some (.inl i)
  | .str x => some (.inr x)
  | _ => none
def toKeys : List PyData → Option (List Key)
  | [] => some []
  | d :: ds => match toKey d, toKeys ds with
    | some k, some ks => some (k :: ks)
    | _, _ => none
def kD : Key → PyData
  | .inl i => .int i
  | .inr x => .str x
theorem toKey_kD (k : Key) : toKey (kD k) = some k := by cases k <;> rfl
theorem toKeys_kD : ∀ ks : List Key, toKeys (ks.map kD) = some ks
  | [] => rfl
  | k :: ks => by
    rw [List.map_cons, toKeys, toKey_kD, toKeys_kD ks]
section
variable {κ : Type} [DecidableEq κ]
def valT (kvs : List (κ × T)) (k : κ) : Option T := (kvs.find? fun kv => decide (kv.1 = k)).map (·.2)
def setT (kvs : List (κ × T)) (k : κ) (v : T) : List (κ × T) :=
  if (kvs.any fun kv => decide (kv.1 = k)) = true then kvs.map (fun kv => if kv.1 = k then (kv.1, v) else kv) else kvs ++ [(k, v)]
theorem valT_pos {p : κ × T} {r : List (κ × T)} {k : κ} (e : p.1 = k) : valT (p :: r) k = some p.2 := by simp [valT, List.find?_cons, e]
theorem valT_neg {p : κ × T} {r : List (κ × T)} {k : κ} (e : ¬ p.1 = k) : valT (p :: r) k = valT r k := by simp [valT, List.find?_cons, e]
theorem valT_any (k : κ) : ∀ kvs : List (κ × T), (kvs.any fun kv => decide (kv.1 = k)) = (valT kvs k).isSome
  | [] => rfl
  | p :: r => by
    rw [List.any_cons]
    by_cases e : p.1 = k
    · simp only [valT_pos e, decide_eq_true e, Bool.true_or, Option.isSome_some]
    · rw [valT_neg e, decide_eq_false e, Bool.false_or]; exact valT_any k r
variable {K : PySem.W.Frag} {s : S}
theorem kr_any {k : κ} : ∀ {kvs : List (κ × T)} {ws : List (κ × V)}, Paired (KR K s) kvs ws → (kvs.any fun kv => decide (kv.1 = k)) = (ws.any fun kv => decide (kv.1 = k))
  | _, _, .nil => rfl
  | p :: kvs, q :: ws, .cons h t => by
    rw [List.any_cons, List.any_cons, kr_any t, show p.1 = q.1 from h.1]
theorem kr_val {k : κ} : ∀ {kvs : List (κ × T)} {ws : List (κ × V)}, Paired (KR K s) kvs ws → (valT kvs k = none → valV ws k = none) ∧ ∀ t, valT kvs k = some t → ∃ v, valV ws k = some v ∧ TR K s t v
  | _, _, .nil => ⟨fun _ => rfl, fun t h => by cases h⟩
  | p :: kvs, q :: ws, .cons h t => by
    have e : p.1 = q.1 := h.1
    obtain ⟨i1, i2⟩ := kr_val (k := k) t
    by_cases c : p.1 = k
    · rw [valT_pos c, valV_pos (e ▸ c)]
      exact ⟨fun z => (by cases z), fun t z => by cases z; exact ⟨_, rfl, h.2⟩⟩
    · rw [valT_neg c, valV_neg (e ▸ c)]
      exact ⟨i1, i2⟩
theorem kr_set {k : κ} {t : T} {v : V} (tv : TR K s t v) {kvs : List (κ × T)} {ws : List (κ × V)} (h : Paired (KR K s) kvs ws) : Paired (KR K s) (setT kvs k t) (putK ws k v) := by
  have go : ∀ {kvs : List (κ × T)} {ws : List (κ × V)}, Paired (KR K s) kvs ws → Paired (KR K s) (kvs.map fun kv => if kv.1 = k then (kv.1, t) else kv) (ws.map fun kv => if kv.1 = k then (kv.1, v) else kv) := by
    intro kvs ws h
    induction h with
    | nil => exact .nil
    | @cons p q _ _ h _ ih =>
      have e : p.1 = q.1 := h.1
      rw [List.map_cons, List.map_cons]
      refine .cons ?_ ih
      by_cases c : p.1 = k
      · rw [if_pos c, if_pos (e ▸ c)]
        exact ⟨e, tv⟩
      · rw [if_neg c, if_neg (e ▸ c)]
        exact h
  unfold setT putK
  rw [kr_any h]
  split
  · exact go h
  · exact Paired.snoc h ⟨rfl, tv⟩
theorem kr_len {kvs : List (κ × T)} {ws : List (κ × V)} (h : Paired (KR K s) kvs ws) : kvs.length = ws.length := Paired.length h
end
section
variable {K : PySem.W.Frag} {G : Hp}
theorem key_dp {v : V} {d : PyData} {k : Key} (h : Dp K G v d) (e : toKey d = some k) : v = kV k := by
  cases h with
  | int i => cases e; rfl
  | str x => cases e; rfl
  | _ => cases e
theorem keys_dp : ∀ {vs : List V} {ds : List PyData} {ks : List Key}, DpAll K G vs ds → toKeys ds = some ks → vs = ks.map kV
  | _, _, _, .nil, e => by cases e; rfl
  | _, d :: ds, _, .cons h t, e => by
    unfold toKeys at e
    split at e
    · rename_i k ks e1 e2
      cases e
      rw [key_dp h e1, keys_dp t e2]
      rfl
    · cases e
theorem dp_keys : ∀ (ks : List Key), DpAll K G (ks.map kV) (ks.map kD)
  | [] => .nil
  | .inl i :: ks => .cons (.int i) (dp_keys ks)
  | .inr x :: ks => .cons (.str x) (dp_keys ks)
end
/-! ### what stands at a key -/
def dLk (μ : Mu) (x y : T) : Option (Option T) := match x with
  | .loc n => match μ[n]? with
    | some (.dk kvs) => match nm μ y with
      | .dat d => (toKey d).map (valT kvs)
      | _ => none
    | some (.lk kvs _ _) => match nm μ y with
      | .dat d => (toKey d).map (valT kvs)
      | _ => none
    | some (.dt kvs) => match nm μ y with
      | .dat (.tuple ds) => (toKeys ds).map (valT kvs)
      | _ => none
    | _ => none
  | _ => none
section
variable {K : PySem.W.Frag} {s s' : S} {μ μ' : Mu} {t x y : T} {v u : V}
structure Dlk (K : PySem.W.Frag) (s : S) (v u : V) (o : Option T) : Prop where
  ex : ∃ a ov, v = .ref a ∧ DGet s.H a u ov ∧ (o = none → ov = none) ∧ ∀ t, o = some t → ∃ w, ov = some w ∧ TR K s t w
theorem dLk_ok (r : Rel K s μ) (hx : TR K s x v) (hy : TR K s y u) {o : Option T} (e : dLk μ x y = some o) : Dlk K s v u o := by
  have h2 := nm_ok r hy
  unfold dLk at e
  split at e
  · rename_i n
    obtain ⟨a, hi, rfl⟩ := hx
    split at e
    · rename_i kvs hn
      split at e
      · rename_i d ed
        rw [ed] at h2
        obtain ⟨k, ek, rfl⟩ := Option.map_eq_some_iff.mp e
        obtain ⟨_, ws, hh, pr⟩ := r.ob n a _ hi hn
        have := key_dp h2 ek
        subst this
        exact ⟨a, _, rfl, DGet.k hh, (kr_val pr).1, (kr_val pr).2⟩
      · cases e
    · rename_i kvs hn
      split at e
      · rename_i d ed
        rw [ed] at h2
        obtain ⟨k, ek, rfl⟩ := Option.map_eq_some_iff.mp e
        obtain ⟨_, hh, pr⟩ := r.ob n a _ hi hn
        have := key_dp h2 ek
        subst this
        exact ⟨a, _, rfl, .inl ⟨_, k, .inr ⟨_, hh⟩, rfl, rfl⟩, (kr_val pr).1, (kr_val pr).2⟩
      · cases e
    · rename_i kvs hn
      split at e
      · rename_i ds ed
        rw [ed] at h2
        obtain ⟨k, ek, rfl⟩ := Option.map_eq_some_iff.mp e
        obtain ⟨_, ws, hh, pr⟩ := r.ob n a _ hi hn
        cases h2 with
        | @tup b xs _ hb hd =>
          have := keys_dp hd ek
          subst this
          exact ⟨a, _, rfl, DGet.t hh (r.sub _ _ hb), (kr_val pr).1, (kr_val pr).2⟩
      · cases e
    · cases e
  · cases e
end
/-! ### d[k], k in d, d.get(k, x) -/
def rNotInDG : R2 := fun y x H Q => ∃ a o, x = .ref a ∧ DGet H a y o ∧ Q (.bl (!o.isSome)) H
def oDNotIn : OD := fun y x μ P => match dLk μ x y with
  | some o => P (.dat (.bool (!o.isSome))) μ
  | _ => False
section
variable {X : Cx} {W : WX} {K : PySem.W.Frag}
theorem Dlk.some_eq {s : S} {v u : V} {o : Option T} {a : Addr} {ov : Option V} (h1 : o = none → ov = none) (h2 : ∀ t, o = some t → ∃ w, ov = some w ∧ TR K s t w) : ov.isSome = o.isSome := by
  cases o with
  | none => rw [h1 rfl]; rfl
  | some t =>
    obtain ⟨w, e, _⟩ := h2 t rfl
    rw [e]
    rfl
theorem op_notInD (hu : X.A.units + 1 < cLine) : OpR X (compareOp .NotIn) rNotInDG := by
  intro pins s σ H y x iv u Q I ry rx h
  obtain ⟨a, ov, rfl, g, q⟩ := h
  cases (show u = Value.ref a from rx)
  exact d_notIn hu I g ry fun s3 I3 => ⟨.bl (!ov.isSome), H, I3, rfl, q⟩
theorem s_notInD : SnO K rNotInDG oDNotIn := fun s μ y x u v P r hy hx ho Q q => by
  unfold oDNotIn at ho
  split at ho
  · rename_i o e
    obtain ⟨a, ov, rfl, g, h1, h2⟩ := (dLk_ok r hx hy e).ex
    refine ⟨a, ov, rfl, g, ?_⟩
    rw [Dlk.some_eq (s := s) (v := u) (u := u) (a := a) h1 h2]
    exact q s _ _ μ (Ext.refl s) r (mk_bool _) ho
  · exact ho.elim
/-! ### d[k] = v -/
def oDSet : OS := fun x i y μ P => match x with
  | .loc n => match μ[n]? with
    | some (.dk kvs) => match nm μ i with
      | .dat d => match toKey d with
        | some k => kvs.length < sizeLine ∧ P (μ.set n (.dk (setT kvs k y)))
        | none => False
      | _ => False
    | some (.dt kvs) => match nm μ i with
      | .dat (.tuple ds) => match toKeys ds with
        | some k => kvs.length < sizeLine ∧ P (μ.set n (.dt (setT kvs k y)))
        | none => False
      | _ => False
    | _ => False
  | _ => False
theorem s_dset : SnSet K rSetD oDSet := fun s μ x i y v u w P r hx hi hy ho Q q => by
  have h2 := nm_ok r hi
  unfold oDSet at ho
  split at ho
  · rename_i n
    obtain ⟨a, ia, rfl⟩ := hx
    split at ho
    · rename_i kvs hn
      obtain ⟨hg, ws, hh, pr⟩ := r.ob n a _ ia hn
      split at ho
      · rename_i d ed
        rw [ed] at h2
        split at ho
        · rename_i k ek
          have := key_dp h2 ek
          subst this
          have pr' := kr_set (k := k) hy pr
          have es : Ext s ⟨s.ι, s.G, upd s.H a (.dK (putK ws k w))⟩ := (Rel.put (o := .gone) r ia hg trivial nk_dK).2
          obtain ⟨r2, e2⟩ := Rel.put (o := .dk (setT kvs k y)) (ho := .dK (putK ws k w)) r ia hg ⟨hg, _, upd_same, KRs.up es pr'⟩ nk_dK
          exact ⟨a, _, rfl, DPut.k hh (by rw [← kr_len pr]; exact ho.1), q _ _ e2 r2 ho.2⟩
        · exact ho.elim
      · exact ho.elim
    · rename_i kvs hn
      obtain ⟨hg, ws, hh, pr⟩ := r.ob n a _ ia hn
      split at ho
      · rename_i ds ed
        rw [ed] at h2
        split at ho
        · rename_i k ek
          cases h2 with
          | @tup b xs _ hb hd =>
            have := keys_dp hd ek
            subst this
            have pr' := kr_set (k := k) hy pr
            have es : Ext s ⟨s.ι, s.G, upd s.H a (.dT (putK ws k w))⟩ := (Rel.put (o := .gone) r ia hg trivial nk_dT).2
            obtain ⟨r2, e2⟩ := Rel.put (o := .dt (setT kvs k y)) (ho := .dT (putK ws k w)) r ia hg ⟨hg, _, upd_same, KRs.up es pr'⟩ nk_dT
            exact ⟨a, _, rfl, DPut.t hh (r.sub _ _ hb) (by rw [← kr_len pr]; exact ho.1), q _ _ e2 r2 ho.2⟩
        · exact ho.elim
      · exact ho.elim
    · exact ho.elim
  · exact ho.elim
/-! ### {} -/
theorem new_dk {s : S} {μ : Mu} {p : Addr} {o : O} {ho : HO} (r : Rel K s μ) (fr : s.H p = none) (hk : Nk ho) (ho' : ∀ s' : S, Ext s s' → s'.G p = none → s'.H p = some ho → OR K s' p o) : ∃ s', s'.H = upd s.H p ho ∧ Ext s s' ∧ Rel K s' (μ ++ [o]) ∧ TR K s' (.loc μ.length) (.ref p) := by
  have gp : s.G p = none := by
    cases z : s.G p with
    | none => rfl
    | some u => rw [r.sub p u z] at fr; cases fr
  have e0 : Ext s ⟨s.ι ++ [p], s.G, upd s.H p ho⟩ := (Rel.new (o := .gone) r fr trivial hk).2
  obtain ⟨r1, e1⟩ := Rel.new (o := o) (ho := ho) r fr (ho' _ e0 gp upd_same) hk
  refine ⟨_, rfl, e1, r1, p, ?_, rfl⟩
  show (s.ι ++ [p])[μ.length]? = some p
  rw [← r.len]
  simp
end
end DL
/-! DL27: dicts with tuples as keys compared and copied, at the library's level. -/
namespace PySem.W
open Lean Elab Tactic Meta PySem PySem.Calls PyProof.Rows PyProof.V PySem.Spec
end PySem.W
/-! DL28: dicts copied, their keys listed, compared. -/
namespace PySem
open PySem.Spec PyProof.Rows
end PySem
namespace DL
open PySem PySem.Spec L2
section
variable {X : Cx} {W : WX} {K : PySem.W.Frag}
/-! ### data level -/
/-- the keys in a list -/
def kT (k : Key) : T := .dat (kD k)
def ksT (ks : List Key) : T := .dat (.tuple (ks.map kD))
def cListD : CD := fun ts μ P => match ts with
  | [.loc n] => match μ[n]? with
    | some (.dk kvs) => mkL (kvs.map fun p => kT p.1) μ P
    | some (.lk kvs _ _) => mkL (kvs.map fun p => kT p.1) μ P
    | some (.dt kvs) => mkL (kvs.map fun p => ksT p.1) μ P
    | _ => False
  | _ => False
def rListDD : List V → Hp → VK → Prop := fun xs H Q => (∃ (a : Addr) (kvs : List (Key × V)), xs = [.ref a] ∧ Rd H a (.dK kvs) ∧ ∀ p, H p = none → Q (.ref p) (upd H p (.lst (kvs.map fun kv => kV kv.1)))) ∨
  (∃ d kvs, xs = [V.ref d] ∧ Rd H d (.dT kvs) ∧ ∀ p bs, H p = none → IsKeys H kvs bs → Q (.ref p) (upd H p (.lst (bs.map V.ref))))
theorem call_listDD (hc : X.calm = true) : CallR X (.type "list") rListDD := (call_listD hc).or (call_list_dT hc)
theorem tr_key {s : S} (k : Key) : TR K s (kT k) (kV k) := by
  cases k with
  | inl i => exact .int i
  | inr x => exact .str x
theorem trs_keys {s : S} : ∀ {kvs : List (Key × T)} {ws : List (Key × V)}, Paired (KR K s) kvs ws → TRs K s (kvs.map fun p => kT p.1) (ws.map fun kv => kV kv.1)
  | _, _, .nil => .nil
  | p :: kvs, q :: ws, .cons h t => by
    have e : p.1 = q.1 := h.1
    rw [List.map_cons, List.map_cons, e]
    exact .cons (tr_key _) (trs_keys t)
theorem adopt_one {s : S} {μ : Mu} (r : Rel K s μ) {b : Addr} {ks : List Key} (hb : s.H b = some (.tup (ks.map kV))) : ∃ s', s'.H = s.H ∧ s'.ι = s.ι ∧ Ext s s' ∧ Rel K s' μ ∧ TR K s' (ksT ks) (.ref b) := by
  obtain ⟨r1, e1⟩ := r.adopt hb
  exact ⟨⟨s.ι, upd s.G b (.tup (ks.map kV)), s.H⟩, rfl, rfl, e1, r1, .tup upd_same (dp_keys ks)⟩
theorem adopt_all {κ : Type} {f : κ → List Key} : ∀ (l : List κ) (bs : List Addr) {s : S} {μ : Mu}, Rel K s μ → Paired (fun p b => s.H b = some (.tup ((f p).map kV))) l bs → ∃ s', s'.H = s.H ∧ s'.ι = s.ι ∧ Ext s s' ∧ Rel K s' μ ∧ TRs K s' (l.map fun p => ksT (f p)) (bs.map V.ref)
  | _, _, s, μ, r, .nil => ⟨s, rfl, rfl, Ext.refl s, r, .nil⟩
  | p :: l, b :: bs, s, μ, r, .cons h t => by
    obtain ⟨s1, h1, i1, e1, r1, t1⟩ := adopt_one r h
    obtain ⟨s2, h2, i2, e2, r2, t2⟩ := adopt_all l bs r1 (Paired.mapP t fun _ _ z => by rw [h1]; exact z)
    exact ⟨s2, h2.trans h1, i2.trans i1, e1.trans e2, r2, .cons (t1.up e2) t2⟩
theorem keys_paired {s : S} {kvs : List (List Key × T)} {ws : List (List Key × V)} (h : Paired (KR K s) kvs ws) : ∀ {bs : List Addr}, IsKeys s.H ws bs → Paired (fun p b => s.H b = some (.tup (p.1.map kV))) kvs bs := by
  induction h with
  | nil => intro bs hb; cases hb; exact .nil
  | @cons p q _ _ h _ ih =>
    intro bs hb
    cases hb with
    | cons hb tb => exact .cons (by rw [show p.1 = q.1 from h.1]; exact hb) (ih tb)
theorem c_listDD : SnC K rListDD cListD := fun s μ ts vs P r ht hc Q q => by
  unfold cListD at hc
  split at hc
  · rename_i n
    obtain ⟨v, rfl, hv⟩ := trs1 ht
    obtain ⟨a, ia, rfl⟩ := hv
    split at hc
    · rename_i kvs hn
      obtain ⟨_, ws, hh, pr⟩ := r.ob n a _ ia hn
      exact .inl ⟨a, ws, rfl, .inl hh, fun p fr => mkL_ok r (trs_keys pr) hc q fr⟩
    · rename_i kvs od ws hn
      obtain ⟨_, hh, pr⟩ := r.ob n a _ ia hn
      exact .inl ⟨a, _, rfl, .inr ⟨_, hh⟩, fun p fr => mkL_ok r (trs_keys pr) hc q fr⟩
    · rename_i kvs hn
      obtain ⟨_, ws, hh, pr⟩ := r.ob n a _ ia hn
      refine .inr ⟨a, ws, rfl, .inl hh, fun p bs fr hb => ?_⟩
      obtain ⟨s1, h1, i1, e1, r1, t1⟩ := adopt_all (f := fun p : List Key × T => p.1) kvs bs r (keys_paired pr hb)
      rw [← h1]
      exact mkL_ok r1 t1 hc (fun s2 v t μ2 e2 r2 x2 h2 => q s2 v t μ2 (e1.trans e2) r2 x2 h2) (by rw [h1]; exact fr)
    · exact hc.elim
  · exact hc.elim
/-! ### compared: dicts of whole numbers -/
end
end DL
/-! DL29: dicts walked: keys, values, entries. -/
namespace DL
open PySem PySem.Spec L2 PyProof.Rows
/-! ### a dict locked from where its walk begins to where it ends -/
def NF (X : Cx) (d : Addr) : Prop := ∀ o' u', X.H_0 d ≠ some (.frz o' u')
inductive Wk where
  | ks | vs | kv
/-! ### data level -/
def Wk.itm : Wk → Key × T → Mu → KT → Prop
  | .ks, p, μ, P => P (kT p.1) μ
  | .vs, p, μ, P => P p.2 μ
  | .kv, p, μ, P => mkT [kT p.1, p.2] μ P
end DL
/-! DL30: whole numbers sorted; lists sought in lists. -/
/-! DL31: zip of two lists; texts turned round. -/
namespace DL
open PySem PySem.Spec L2
/-! ### for x, y in zip(xs, ys) -/
def itZ (t u : T) (ts us : List T) : IT := ⟨min ts.length us.length, fun μ => rdL μ t = some ts ∧ rdL μ u = some us, fun i μ P => ∃ x y, ts[i]? = some x ∧ us[i]? = some y ∧ mkT [x, y] μ P⟩
def wi_zip2 (wa : WpA) : WpI := fun env μ P PX => wa env μ (fun vs μ1 => match vs with
  | [t, u] => match rdL μ1 t, rdL μ1 u with
    | some ts, some us => P (itZ t u ts us) μ1
    | _, _ => False
  | _ => False) PX
theorem snI_zip2 {K : PySem.W.Frag} {W : WX} {ta : TA} {wa : WpA} (h : SnA K W ta wa) : SnI K W (iZip K ta) (wi_zip2 wa) := fun s μ env σ P PX r en hw th R q => by
  refine h s μ env σ _ PX r en hw th _ fun s1 vs us μ1 e1 r1 t1 h1 => ?_
  split at h1
  · rename_i t u
    cases t1 with
    | cons t1 tr =>
      cases tr with
      | cons u1 tr =>
        cases tr
        split at h1
        · rename_i ts us et eu
          obtain ⟨a, xs, rfl, hs, _⟩ := rdL_ok r1 t1 et
          obtain ⟨b, ys, rfl, hs2, _⟩ := rdL_ok r1 u1 eu
          refine ⟨a, b, xs, ys, rfl, hs, hs2, q s1 _ (itZ t u ts us) μ1 e1 r1 ⟨fun s μ e r k => ?_, fun s μ i e r k lt => ?_, fun s μ i P e r k lt hp x H' y => ?_⟩ h1⟩
          · obtain ⟨a', xs, ea, ha, ta⟩ := rdL_ok r (t1.up e) k.1
            obtain ⟨b', ys, eb, hb, tb⟩ := rdL_ok r (u1.up e) k.2
            cases ea
            cases eb
            refine ⟨xs, ys, ha, hb, ?_⟩
            rw [← ta.len, ← tb.len]
            show ts.length ≤ min ts.length us.length ∨ us.length ≤ min ts.length us.length
            omega
          · obtain ⟨a', xs, ea, ha, ta⟩ := rdL_ok r (t1.up e) k.1
            obtain ⟨b', ys, eb, hb, tb⟩ := rdL_ok r (u1.up e) k.2
            cases ea
            cases eb
            have lt : i < min ts.length us.length := lt
            have l1 : i < xs.length := by rw [← ta.len]; omega
            have l2 : i < ys.length := by rw [← tb.len]; omega
            exact ⟨xs, ys, xs[i], ys[i], ha, hb, by simp [l1], by simp [l2]⟩
          · obtain ⟨a', xs, ea, ha, ta⟩ := rdL_ok r (t1.up e) k.1
            obtain ⟨b', ys, eb, hb, tb⟩ := rdL_ok r (u1.up e) k.2
            cases ea
            cases eb
            obtain ⟨T0, x0, y0, rfl, fr, rfl, hx, hy⟩ := y
            obtain ⟨t', u', et', eu', hp⟩ := hp
            obtain ⟨v', ev', tv'⟩ := ta.get et'
            obtain ⟨w', ew', tw'⟩ := tb.get eu'
            have k1 := hx xs ha
            have k2 := hy ys hb
            rw [k1] at ev'
            rw [k2] at ew'
            cases ev'
            cases ew'
            exact mkT_ok (Q := fun v H => ∃ s' t' μ', s'.H = H ∧ Ext s s' ∧ Rel K s' μ' ∧ TR K s' t' v ∧ P t' μ') r (.cons tv' (.cons tw' .nil)) hp (fun s' v t μ' e r t h => ⟨s', _, μ', rfl, e, r, t, h⟩) fr
        · exact h1.elim
  · exact h1.elim
theorem ji_zip2 {X : Cx} {W : WX} {a b : Expr} {w : WpA} {p pos tpos : Pos} {elts : List Expr} {kk : Nat} (hm : X.mg "zip" = none) (h : JA X W [a, b] w) (hg : Gl X "zip" := by rfl) (hs : starEach [a, b] X.env = (false, eval a X.env) :: starEach [b] X.env := by rfl)
    (hpl : (backTo pos (starEach [b] X.env)).any (·.1) = false := by rfl) : JI X W (.Tuple elts kk tpos) (.Call (.Name "zip" p) [a, b] [] pos) (wi_zip2 w) := by
  obtain ⟨_, p, s⟩ := h
  exact ⟨_, pi_zip hg hm p hs hpl, snI_zip2 s⟩
/-! ### z[::-1] of a text -/
end DL
/-! DL32: list.extend; what the printer leans on. -/
namespace DL
open PySem PySem.Spec L2
section
variable {X : Cx} {W : WX} {K : PySem.W.Frag}
theorem room1 {A : Around} (h : A.units + 64 < cLine) : A.units + 1 < cLine := by omega
end
end DL
/-! DL33: try .. except (A, B, C): without a name. -/
namespace L2
open PySem PySem.Spec PyProof.Rows
end L2
/-! DL34: how many unlike ints, len of a dict, setdefault, {k: v}, xs[:] = ys. -/
/-! DL35: xs[:] = ys. -/
/-! DL36: xs.index(i), xs a list of ints. -/
/-! DL37: lists of data sorted, of any length. -/
/-! DL38: bits of numbers; o.f |= e, o[i] |= e; reversed ranges; the set of a text's signs. -/
/-! DL39: sorted(set(text)). -/
namespace DL
open PySem PySem.Spec L2 PyProof.Rows PySem.Froz
/-- a text's signs, each a text -/
def signsS (z : Str) : List Str := z.cps.toList.map fun c => (⟨#[c]⟩ : Str)
theorem signsS_len (z : Str) : (signsS z).length = z.cps.size := by simp [signsS]
section
variable {P : Program} {w : World} {A : Around} {E : Value → Shared → Prop} {s : Shared}
theorem call_set_text {x : Str} {t : Tok} {Q : Value → Shared → Prop} (hh : A.handled = none) (hb : (signsS x).length + 1 < scanBound)
    (h : ∀ (h' : Heap) (tk : Nat), TxR P w h' s.heap.objs.size (addsL (signsS x) []) → (∀ b o, s.heap.get? b = some o → h'.get? b = some o) → Q (.ref s.heap.objs.size) { s with heap := h', toks := tk }) :
    wpAny (model P w) A (call (.type "set") [.str x t]) Q E s := by
  obtain ⟨c, tl, hmro⟩ := F.called_set.mro
  have hmade := F.called_set.made
  have hsub := F.called_set.sub
  refine wpAny_call (codeAny_of_tree ?_)
  show wpAny _ _ (callAny (.type "set") _) _ _ _
  refine wpAny_pure ⟨Code.quiet_builtin _ (by decide +kernel), codeAny_builtin F.entry_type_call ?_⟩
  rw [Around.under_plain (weight_type_call_type "set" [.str x t] []) rfl]
  have h1 := F.called_set.notType
  have h2 := F.called_set.canCreate
  have hct := F.typeCall_set_1 (.str x t)
  repeat (any_goals (first | assumption | wp_step))
  refine codeAny_mono (code_set_led1 (.str x t) (E := E) (Q₁ := fun obj s₁ => obj = .ref s.heap.objs.size ∧ s₁ = { s with heap := s.heap.push (set0 w) }) ⟨rfl, rfl⟩) fun r s₁ hr => ?_
  cases r with
  | error e => exact hr
  | ok fl =>
    cases fl with
    | ret obj =>
      obtain ⟨rfl, rfl⟩ := hr
      have hS : (s.heap.push (set0 w)).get? s.heap.objs.size = some (set0 w) := Heap.get?_push_size _ rfl
      have hT : Shared.TypeIs { s with heap := s.heap.push (set0 w) } (.ref s.heap.objs.size) "set" := ⟨_, hS, rfl⟩
      have hli := F.called_set.init.lookup
      have hbi := F.called_set.init.bind (.ref s.heap.objs.size)
      repeat (any_goals (first | assumption | wp_step))
      refine codeAny_mono (codeAny_call_builtin (R := wants (fun r s₂ => r = .none ∧ ∃ h' tk, s₂ = { s with heap := h', toks := tk } ∧ TxR P w h' s.heap.objs.size (addsL (signsS x) []) ∧
          (∀ b o, s.heap.get? b = some o → h'.get? b = some o)) E) F.called_set.init.plain F.entry_set_init (check_set_init_1 hT ?_)) fun r₂ s₂ hr₂ => ?_
      · have hsls : isSubtype (.type "str") (.type "set") = pure false := by rw [isSubtype_type]; kernel_rfl
        have hslf : isSubtype (.type "str") (.type "frozenset") = pure false := by rw [isSubtype_type]; kernel_rfl
        have hne : (Value.type "str" == Value.type "dict") = false := by decide
        unfold Builtin.«set.__init__» noKeywords Builtin.Frozenset.updateFrom
        generalize hPI : pyIter = PI
        wp_walk
        subst hPI
        refine wpAny_pyIter_str fun o St hW hst => ?_
        refine wpAny_bind (wpAny_runValue ?_)
        have hh3 : A.in1.in1.in1.handled = none := by simp [hh]
        have hSf : s.heap.objs.size ∉ [(s.heap.push (set0 w)).objs.size] := by
          rw [Heap.size_push]
          simp
        have hval : ∀ (i : Nat) (v : Value), SignAt x i v → ∃ k u, (signsS x)[i]? = some k ∧ v = .str k u := fun i v ⟨c, u, e1, e2⟩ => ⟨_, u, by
          unfold signsS
          rw [List.getElem?_map, Array.getElem?_toList, e1]
          rfl, e2⟩
        refine tx_update ((hW _ hh3).toS) s.heap.objs.size hSf (signsS x) (signsS_len x).symm hb hval (x.cps.size - 0) 0 _ (by omega) (Nat.zero_le _) hst ?hS0 ?hR
        case hS0 => exact txr_new (Heap.get?_push_of_some _ hS)
        case hR =>
          intro s' hm hS'
          obtain ⟨h', g2, d', tk', os'⟩ := s'
          have eg : g2 = s.gens := hm.gens
          have ed : d' = s.drawn := hm.drawn
          have eo : os' = s.os := hm.os
          subst eg; subst ed; subst eo
          show wpAny _ _ _ _ _ _
          refine wpAny_pure ?_
          show wpAny _ _ (ret Value.none) _ _ _
          refine wpAny_pure ⟨rfl, h', tk', rfl, hS', fun b o e => ?_⟩
          have hb0 : b < s.heap.objs.size := Heap.lt_size e
          have hb1 : b ≠ s.heap.objs.size := Nat.ne_of_lt hb0
          have hb2 : b ≠ (s.heap.push (set0 w)).objs.size := by
            rw [Heap.size_push]; exact Nat.ne_of_lt (Nat.lt_succ_of_lt hb0)
          exact hm.heap b o (by simp only [List.mem_cons, List.mem_singleton, List.not_mem_nil, or_false, not_or]; exact ⟨hb1, hb2⟩) (Heap.get?_push_of_some _ (Heap.get?_push_of_some _ e))
      · cases r₂ with
        | error e => exact hr₂
        | ok fl₂ =>
          cases fl₂ with
          | ret r =>
            obtain ⟨rfl, h', tk, rfl, hS', hk'⟩ := hr₂
            repeat (any_goals (first | assumption | wp_step))
            exact h _ _ hS' hk'
          | _ => exact hr₂.elim
    | _ => exact hr.elim
end
section
variable {X : Cx} {W : WX}
/-- sorted(set(e)), e a text -/
def tSortSig (ta : TE) : TE := fun σ H Q => ta σ H fun x H1 => ∃ z : Str, x = .str z ∧ z.cps.size + 1 < scanBound ∧
  ∀ (ys : List Str) (p : Addr), ys.Nodup → (∀ k, k ∈ ys ↔ k ∈ signsS z) → sortedS ys = true → H1 p = none → Q (.ref p) (upd H1 p (.lst (ys.map V.str)))
theorem pe_sortSig {a : Expr} {ta : TE} {p p2 q pos : Pos} (hc : X.calm = true) (hm : X.mg "sorted" = none) (hm2 : X.mg "set" = none) (ha : PE X a ta) (hg : Gl X "sorted" := by rfl) (hg2 : Gl X "set" := by rfl)
    (na : starEach [a] X.env = (false, eval a X.env) :: starEach [] X.env := by rfl) : PE X (.Call (.Name "sorted" p) [.Call (.Name "set" p2) [a] [] q] [] pos) (tSortSig ta) := by
  refine ⟨fun pins s σ H Q I h => ?_⟩
  refine Call_ (ld_blt I hg hm (u := .builtin "sorted") (by decide +kernel) ?_)
  refine PyProof.Rows.callWith_builtin1 (PyProof.Rows.args_cons ?_ rfl) rfl rfl
  refine Call_ (ld_blt I hg2 hm2 boot_set ?_)
  refine PyProof.Rows.callWith_type1 (PyProof.Rows.args_cons (thn (ha.run pins s σ H _ I h) fun v s1 ⟨x, H1, I1, r1, q1⟩ => PyProof.Rows.args_nil ?_) na) na rfl
  obtain ⟨z, rfl, h1, q1⟩ := q1
  obtain ⟨t, rfl⟩ := r1
  refine call_set_text (I1.ok.hd hc) (by rw [signsS_len]; exact h1) fun h' tk R hk => PyProof.Rows.args_nil ?_
  have I2 : Inv X pins σ H1 { s1 with heap := h', toks := tk } := I1.kept fun b o e => hk b o e
  have len := addsL_len (signsS z) []
  rw [signsS_len] at len
  refine sorted_txr (s := { s1 with heap := h', toks := tk }) R (I2.ok.hd hc) (by simp at len; omega) fun s' p out c ys k g o hp hg hi hpm hs => ?_
  have hlen : (ys.map V.str).length ≤ sizeLine := by
    rw [List.length_map, hpm.length_eq]
    refine fits_of_scanBound ?_
    simp at len
    omega
  have hn : H1 p = none := I2.hok.fresh hp
  have J : Inv X pins σ (upd H1 p (.lst (ys.map V.str))) { ({ s1 with heap := h', toks := tk } : Shared) with heap := s'.heap, gens := s'.gens, drawn := s'.drawn, toks := s'.toks } :=
    I2.call (ch := []) (Un.laid k hp hn) (I2.hok.laid k hp ⟨hlen, out.toList, c, vals_of_strs hi, hg⟩) (by rw [g]; exact I2.bare) (fun _ z => nomatch z)
  have e : s' = { ({ s1 with heap := h', toks := tk } : Shared) with heap := s'.heap, gens := s'.gens, drawn := s'.drawn, toks := s'.toks } := by
    cases s'
    cases s1
    cases o
    rfl
  rw [e]
  refine ⟨.ref p, _, J, rfl, q1 ys p ?_ (fun z => ?_) hs hn⟩
  · exact hpm.nodup_iff.mpr (addsL_nd _ [] List.nodup_nil)
  · rw [hpm.mem_iff, addsL_mem]
    simp
def wSortSig (w : WpE) : WpE := fun env μ P PX => w env μ (fun t μ1 => match nm μ1 t with
  | .dat (.str z) => z.cps.size < 4000 ∧ ∀ ys : List Str, ys.Nodup → (∀ k, k ∈ ys ↔ k ∈ signsS z) → sortedS ys = true → P (.loc μ1.length) (μ1 ++ [.lst (ys.map fun y => .dat (.str y))])
  | _ => False) PX
theorem je_sortSig {a : Expr} {w : WpE} {p p2 q pos : Pos} (hc : X.calm = true) (hm : X.mg "sorted" = none) (hm2 : X.mg "set" = none) (ha : JE X W a w) (hg : Gl X "sorted" := by rfl) (hg2 : Gl X "set" := by rfl)
    (na : starEach [a] X.env = (false, eval a X.env) :: starEach [] X.env := by rfl) : JE X W (.Call (.Name "sorted" p) [.Call (.Name "set" p2) [a] [] q] [] pos) (wSortSig w) := by
  obtain ⟨_, pa, sa⟩ := ha
  refine ⟨_, pe_sortSig hc hm hm2 pa hg hg2 na, fun s μ env σ P PX r en hw th Q q => ?_⟩
  refine sa s μ env σ _ PX r en hw th _ fun s1 v t μ1 e1 r1 t1 h1 => ?_
  have h2 := nm_ok r1 t1
  split at h1
  · rename_i z ez
    rw [ez] at h2
    cases h2
    refine ⟨z, rfl, by unfold scanBound; omega, fun ys pn nd mm so fr => ?_⟩
    have hy := h1.2 ys nd mm so
    exact mkL_ok r1 (trs_strs (K := X.K) (s := s1) ys) hy (fun s' v t μ' e' r' t' p' => q s' v t μ' (e1.trans e') r' t' p') fr
  · exact h1.elim
end
end DL
/-! DL43: for i in reversed(range(e)), its reading by e's. -/
/-! DL44: defs made in a def's body, and calls of them. -/
namespace DL
open PySem PySem.Spec L2
open PyProof.Rows (envOfC)
open NdefX (FnO NScope CellsAt startF envF ncx Caps slotAt TabsN NTab)
open LamX (CodeO TabB ExtN)
/-! ### captured cells, in the heap that never changes -/
structure CB (base : Heap) (cl : List (Str × Addr)) (fr : List Str) (ws : List V) : Prop where
  len : ws.length = fr.length
  all : ∀ y c, cl.lookup y = some c → ∃ v, base.IsCell c v
  inj : ∀ x y c, cl.lookup x = some c → cl.lookup y = some c → x = y
  has : ∀ (i : Nat) (y : Str), fr[i]? = some y → ∃ c, cl.lookup y = some c ∧ ∀ v, ws[i]? = some v → ∃ u, RelV v u ∧ base.IsCell c (some u)
theorem CB.at_ {base h : Heap} {H : Hp} {cl : List (Str × Addr)} {fr : List Str} {ws : List V} (C : CB base cl fr ws) (bs : ∀ b o, base.get? b = some o → h.get? b = some o ∧ H b = none) : CellsAt cl fr (ws.map some) h H := by
  refine ⟨by rw [List.length_map]; exact C.len, fun y c e => ?_, C.inj, fun i y e => ?_⟩
  · obtain ⟨v, o, ho, hd⟩ := C.all y c e
    exact ⟨(bs c o ho).2, v, o, (bs c o ho).1, hd⟩
  · obtain ⟨c, hc, hv⟩ := C.has i y e
    refine ⟨c, hc, fun v ev => ?_⟩
    rw [List.getElem?_map] at ev
    obtain ⟨v', e1, e2⟩ := Option.map_eq_some_iff.mp ev
    cases e2
    obtain ⟨u, ru, o, ho, hd⟩ := hv _ e1
    exact ⟨u, ru, o, (bs c o ho).1, hd⟩
/-! ### what such a function promises -/
structure NG (P : Program) (w : World) (K : PySem.W.Frag) (mg : Str → Option Value) (base : Heap) (k : Nat) (f : Addr) (F : NdefX.NF) (n : Nat) (sp : Sp) : Prop where
  len : ∀ vs H Q E, sp vs H Q E → vs.length = n
  run : ∀ (A : Around) (outer : List Env) (s : Shared) (H : Hp) (us : List Value) (vs : List V) (Q : VK) (E : XK), Room k A → A.guards = some [] → Env0 P w K mg base A outer s H → H f = some (FnO f F) → H F.c = some (CodeO F.c F.qual) →
    Vals vs us → sp vs H Q E → codeAny (model P w) A (.call (.ref f) ⟨us, []⟩) (CR (L2.CX P w) outer P w H s Q E) s
theorem NG.mono {P : Program} {w : World} {K : PySem.W.Frag} {mg : Str → Option Value} {base : Heap} {j k n : Nat} {f : Addr} {F : NdefX.NF} {sp : Sp} (o : NG P w K mg base j f F n sp) (h : j ≤ k) : NG P w K mg base k f F n sp :=
  ⟨o.len, fun A outer s H us vs Q E hr => o.run A outer s H us vs Q E (hr.mono h)⟩
theorem start_two {N : List Str} {vs ws : List V} : L2.start N (vs ++ ws) = startF N vs (ws.map some) := by
  unfold L2.start startF
  rw [List.map_append, List.append_assoc, List.length_append, List.length_map, Nat.sub_sub]
section
variable {P : Program} {w : World} {K : PySem.W.Frag} {mg : Str → Option Value} {base : Heap}
/-- by its body: the parameters first, then the captured names -/
theorem ND.ok {F : NdefX.NF} {f : Addr} {N ps fr : List Str} {ws : List V} {k : Nat} {dsp : DSp} {wsb : WpS} (S : NScope N ps fr F.scope)
    (hb : ∀ (doc pm ctv : Value) (us : List Value), us.length = ps.length → bindArgs (F.fd doc pm ctv) ⟨us, []⟩ = pure (ps.zip us)) (C : CB base F.cl fr ws) (len : ∀ ts μ PT PX, dsp ts μ PT PX → ts.length = ps.length + fr.length)
    (hbody : ∀ (A : Around) (outer : List Env) (s : Shared) (H : Hp) (E : XK), Room k (A.deeper (envF F f s.heap.objs.size)) → (A.deeper (envF F f s.heap.objs.size)).guards = some [] →
      JB (ncx (L2.CX P w) P w K mg base N F f A outer s H E) (fun c d _ H => E c d H) F.body wsb)
    (hw : ∀ ts μ PT PX, dsp ts μ PT PX → wsb { nx := fun _ μ' => endV μ.length PT (.dat .none) μ', rt := endV μ.length PT, ex := fun C t _ μ' => endV μ.length (PX C) t μ' } (startE N.length ts) μ) :
    NG P w K mg base (k + 1) f F ps.length (fun vs H Q E => toSp K dsp (vs ++ ws) H Q E) := by
  have lens : ∀ vs H Q E, toSp K dsp (vs ++ ws) H Q E → vs.length = ps.length := fun vs H Q E z => by
    obtain ⟨_, ts, μ, PT, PX, _, _, tv, hd, _⟩ := z
    have e1 := tv.len
    have e2 := len ts μ PT PX hd
    have e3 := C.len
    rw [List.length_append] at e1
    omega
  refine ⟨lens, fun A outer s H us vs Q E hr hgd e0 hf hc rv hsp => ?_⟩
  have vl := lens _ _ _ _ hsp
  have ul : us.length = ps.length := by rw [← rv.length]; exact vl
  have same : ∀ b o, base.get? b = some o → s.heap.get? b = some o := fun b o e => (e0.bs b o e).1
  have noLim : s.heap.NoLimit := e0.mod.nolimit.keeps same
  obtain ⟨_, _, doc, pm, ctv, hfo⟩ := NdefX.fnO_at e0.hok hf
  refine codeAny_call_function hr.depth hfo rfl S.co S.gen rfl (NdefX.codeO_at e0.hok hc) ?_
  rw [hb doc pm ctv us ul]
  refine wpAny_pure (wpAny_newFunctionEnv S.nocell (fun y hy => S.par y.1 (List.of_mem_zip (a := y.1) (b := y.2) hy).1) (fun hp hns hsb => ?_) S.kind)
  refine ⟨noLim.fresh _ hsb, codeAny_func ?_⟩
  have grow : ∀ b o, s.heap.get? b = some o → hp.get? b = some o := fun b o e =>
    hsb.extBut b o (Nat.ne_of_lt (Heap.lt_size e)) (Heap.get?_push_of_some _ e)
  have J := NdefX.inv_startN (CX := L2.CX P w) (f := f) (E := E) (tk := s.toks + (ps.zip us).length) S hr.hd e0 vl rv (C.at_ e0.bs) hns grow
  obtain ⟨s0, ts, μ, PT, PX, rfl, r, tv, hd, q, qx⟩ := hsp
  obtain ⟨t, ht, st⟩ := hbody A outer s s0.H E (hr.deeper _) (guards_deeper hgd)
  have en : EnR K s0 (startE N.length ts) (startF N vs (ws.map some)) := start_two ▸ start_ok (N := N) tv
  have go := st s0 μ (startE N.length ts) (startF N vs (ws.map some)) _ { nx := fun _ H' => Q .non H', rt := Q } r en (hw ts μ PT PX hd) ⟨fun s' μ' env σ e r' en h => endV_ok e r.len r' (v := .non) mk_none h q, fun s' μ' v t e r' tv' h => endV_ok e r.len r' tv' h q, fun s' μ' env σ e r' en h => h.elim, fun s' μ' env σ e r' en h => h.elim, fun s' μ' env σ C d v t e r' en hx tv' h => (by
    obtain ⟨μf, V, t0, μ0, fz, hv, vw, et, hp⟩ := h
    obtain ⟨s1, hh, hi, e1, r1⟩ := fz_ok fz r'
    have tv1 : TR K s1 (t0.ren (fV V μf)) v := et ▸ nm_ok r1 (tv'.up e1)
    have io := endV_ext (e.trans e1) r.len r1 hv vw
    have hg1 : s1.G d = none := by
      cases q : s1.G d with
      | none => rfl
      | some u =>
        rcases e1.nw d (by rw [q]; exact fun z => by cases z) hx.g with z | z | ⟨o1, z, k⟩
        · rw [hx.h] at z; cases z
        · exact absurd z hx.n
        · rw [hx.h] at z; cases z; exact absurd nk_xd k
    rw [← hh]
    exact qx ⟨adr s1 V, s1.G, s1.H⟩ C d v t0 μ0 io (r1.view vw) ⟨by show s1.H d = _; rw [hh]; exact hx.h, hx.o, hg1, fun m => hx.n (by rw [← hi]; exact adr_mem r1 vw.lt m)⟩ (tr_in (s := s1) (s0 := ⟨adr s1 V, s1.G, s1.H⟩) (Same.refl _) (fun n a z => view_in r1 vw.lt n a z) tv1) hp)⟩
  refine wpAny_mono (ht.run [] _ _ s0.H _ J go) (fun fl s' hs => ?_) fun e s' hs => hs
  cases fl with
  | next =>
    obtain ⟨σ', H', J', q'⟩ := hs
    exact ⟨V.non, H', J'.os, J'.bare, J'.base, J'.hok, rfl, q'⟩
  | ret u =>
    obtain ⟨v, σ', H', J', rv', q'⟩ := hs
    exact ⟨v, H', J'.os, J'.bare, J'.base, J'.hok, rv', q'⟩
  | brk =>
    obtain ⟨_, _, _, z⟩ := hs
    exact z.elim
  | cont =>
    obtain ⟨_, _, _, z⟩ := hs
    exact z.elim
end
end DL
/-! DL45: the def statement in a def's body; a call of a function value; a call that hands function values on. -/
namespace DL
open PySem PySem.Spec L2
open PyProof.Rows (envOfC)
open NdefX (FnO NScope CellsAt startF envF ncx Caps slotAt TabsN NTab)
open LamX (CodeO TabB ExtN)
/-- known of a function value: its object -/
def pO (f : Addr) (F : NdefX.NF) : Hp → Prop := fun G => G f = some (FnO f F) ∧ G F.c = some (CodeO F.c F.qual)
/-- .. and, at a heap that never changes, its promise -/
def pN (P : Program) (w : World) (K : PySem.W.Frag) (mg : Str → Option Value) (base : Heap) (k n : Nat) (f : Addr) (dsp : DSp) (cs : List T) : Hp → Prop := fun G =>
  ∃ (F : NdefX.NF) (ws : List V), pO f F G ∧ TRs K ⟨[], G, G⟩ cs ws ∧ NG P w K mg base k f F n (fun vs H Q E => toSp K dsp (vs ++ ws) H Q E)
abbrev PN := Nat → Nat → Addr → DSp → List T → Hp → Prop
/-! ### the statement -/
def wNdef (i : Nat) (po : Addr → Addr → Hp → Prop) : WpS := fun D env μ => ∀ f c', D.nx (env.set i (some (.fn f (po f c')))) μ
section
variable {X : Cx} {W : WX}
theorem snS_ndef {i : Nat} {mk : Addr → NdefX.NF} (hc : ∀ c, (mk c).c = c) : SnS X.K W (NdefX.tNdefM (tabs X.K) i mk) (wNdef i fun f c' => pO f (mk c')) := fun s μ env σ D E r en h l => by
  refine ⟨r.tb.h, fun f c' H1 eN nn T1 f0 f1 c1 => ?_⟩
  have pl : ∀ a o, a ∈ s.ι → s.H a = some o → H1 a = some o := fun a o m e => eN a o e (r.nk a o m e).tb
  have nf : f ∉ s.ι := fun m => r.thr f m f0
  have nc : c' ∉ s.ι := fun m => by
    obtain ⟨o, e⟩ := not_none (r.thr c' m)
    have := pl c' o m e
    rw [c1] at this
    cases this
    exact (r.nk c' _ m e).ex _ rfl
  have gs : ∀ a o, s.G a = some o → H1 a = some o := fun a o e => eN a o (r.sub a o e) fun ps z => r.tb.g a ps (z ▸ e)
  obtain ⟨G1, hG⟩ : ∃ G1 : Hp, G1 = fun a => if a = f ∨ a = c' then H1 a else s.G a := ⟨_, rfl⟩
  have g1 : ∀ {a}, a = f ∨ a = c' → G1 a = H1 a := fun {a} m => by rw [hG]; exact if_pos m
  have g2 : ∀ {a}, ¬ (a = f ∨ a = c') → G1 a = s.G a := fun {a} m => by rw [hG]; exact if_neg m
  have sg : Same s.G G1 := fun a o e => by
    by_cases m : a = f ∨ a = c'
    · rw [g1 m]; exact gs a o e
    · rw [g2 m]; exact e
  have sub : Same G1 H1 := fun a o e => by
    by_cases m : a = f ∨ a = c'
    · rw [g1 m] at e; exact e
    · rw [g2 m] at e; exact gs a o e
  have xt : ∀ a, a = f ∨ a = c' → ∃ φ, H1 a = some (.ext φ) := fun a m => by
    rcases m with rfl | rfl
    · exact ⟨_, f1⟩
    · exact ⟨_, c1⟩
  have r1 : Rel X.K ⟨s.ι, G1, H1⟩ μ := by
    refine ⟨sub, r.nd, r.len, fun n a o h1 h2 => ?_, fun a m z => ?_, fun a o m e => ?_, ⟨fun a ps e => ?_, T1⟩⟩
    · have m := List.mem_of_getElem? h1
      have na : ¬ (a = f ∨ a = c') := fun z => z.elim (fun z => nf (z ▸ m)) fun z => nc (z ▸ m)
      exact OR.same (s := s) sg (fun _ _ q => q) (fun g => by show G1 a = none; rw [g2 na]; exact g) (fun u q => pl a u m q) (r.ob n a o h1 h2)
    · have z := nn a z
      exact r.thr a m z
    · obtain ⟨o', e'⟩ := not_none (r.thr a m)
      have := pl a o' m e'
      have e : H1 a = some o := e
      rw [e] at this
      cases this
      exact r.nk a o m e'
    · have e : G1 a = some (.tbl ps) := e
      by_cases m : a = f ∨ a = c'
      · obtain ⟨φ, x⟩ := xt a m
        rw [g1 m, x] at e
        cases e
      · rw [g2 m] at e; exact r.tb.g a ps e
  have e1 : Ext s ⟨s.ι, G1, H1⟩ := by
    refine ⟨⟨[], by simp⟩, sg, fun a o e _ nt => eN a o e nt, fun a h1 h2 => ?_, fun a m n => absurd m n, fun a z => .inl (nn a z)⟩
    by_cases m : a = f ∨ a = c'
    · cases q : s.H a with
      | none => exact .inl rfl
      | some o =>
        refine .inr (.inr ⟨o, rfl, fun k => ?_⟩)
        obtain ⟨φ, x⟩ := xt a m
        have := eN a o q k.tb
        rw [x] at this
        cases this
        exact k.ex φ rfl
    · have h1 : G1 a ≠ none := h1
      rw [g2 m] at h1
      exact absurd h2 h1
  have tf : TR X.K ⟨s.ι, G1, H1⟩ (.fn f (pO f (mk c'))) (.ref f) := ⟨rfl, fun G g => ⟨g _ _ (by show G1 f = _; rw [g1 (.inl rfl)]; exact f1), g _ _ (by show G1 (mk c').c = _; rw [hc, g1 (.inr rfl)]; exact c1)⟩⟩
  exact l.nx ⟨s.ι, G1, H1⟩ μ _ _ e1 r1 (EnR.set tf i (en.up e1)) (h f c')
/-- «def name(..): ..» in a def's body -/
theorem js_ndef {st : Stmt} {nm : Nat → Nat → Str} {c P : Addr} {name : Str} {pos : Pos} {i : Nat} (hst : st = .FunctionDef name (C8.fnArgs st) (C8.fnBody st) [] none [] (C8.fnScope st) none name pos) (TB : X.K.In X.base → TabB X.base X.mg c P) (hcode : X.env.code = .ref c)
    (hm : (P, nm) ∈ tabs X.K) (hN : X.N.Nodup) (hn : nm pos.line pos.col = X.env.qual ++ name) (hfree : ∀ y ∈ (C8.fnScope st).names, y.2 = .free → X.env.scope.names.lookup y.1 = some .cell ∨ X.env.scope.names.lookup y.1 = some .free)
    (hd0 : (C8.fnArgs st).defaults = [] := by rfl) (hk0 : (C8.fnArgs st).kw_defaults = [] := by rfl) (ha : annTrees (C8.fnArgs st) none X.env = [] := by rfl)
    (hi : X.N[i]? = some name := by rfl) (hx : Loc X.env.scope name := by first | exact Or.inl rfl | exact Or.inr rfl) (hf : X.fn name = true ∨ X.env.scope.names.lookup name = some .local := by first | exact Or.inl rfl | exact Or.inr rfl) :
    JS X W st (wNdef i fun f c' => pO f (NdefX.NF.of st name (X.env.qual ++ name) (cloFrom X.env.cells (C8.fnScope st).names []) c')) :=
  ⟨_, ⟨fun pins s σ H D I h => (NdefX.ps_ndefMS hst (TB I.ok.mod.kin) hcode hm hn (fun p hp e => congrArg Prod.snd (tabs_uniq hp hm e)) hfree hd0 hk0 ha hN hi hx hf).run pins s σ H D I h⟩, snS_ndef (mk := NdefX.NF.of st name (X.env.qual ++ name) (cloFrom X.env.cells (C8.fnScope st).names [])) fun _ => rfl⟩
end
/-! ### a call of a function value -/
def tCallV (i : Nat) (f : Addr) (F : NdefX.NF) (sp : Sp) (E : St → XK) (t : TA) : TE := fun σ H Q => σ[i]? = some (some (.ref f)) ∧ H f = some (FnO f F) ∧
  t σ H fun vs H1 => H1 f = some (FnO f F) ∧ H1 F.c = some (CodeO F.c F.qual) ∧ sp vs H1 Q (E σ)
/-- the function is known at the call alone -/
def tCallW (P : Program) (w : World) (K : PySem.W.Frag) (mg : Str → Option Value) (base : Heap) (k n i : Nat) (E : St → XK) (t : TA) : TE := fun σ H Q => ∃ f F sp, NG P w K mg base k f F n sp ∧ tCallV i f F sp E t σ H Q
section
variable {X : Cx} {W : WX} {i j k n : Nat} {E : St → XK} {x : Str} {t : TA} {wa : WpA} {e : Expr} {es : List Expr} {p pos : Pos}
theorem pe_callV (hr : Room j X.A) (hgd : X.A.guards = some []) (hk : k ≤ j) (hx : ∀ σ, PassesAt (L2.CX X.prog X.w) X σ (E σ)) (hN : X.N[i]? = some x) (hv : Vis X.env.scope x) (ha : PA X (e :: es) t)
    (hd : (x == ("__debug__" : Str)) = false := by decide) (hcd : (x == ("__classdict__" : Str)) = false := by decide)
    (he : starEach (e :: es) X.env = (false, eval e X.env) :: starEach es X.env := by rfl) (hpl : (backTo pos (starEach es X.env)).any (·.1) = false := by rfl) :
    PE X (.Call (.Name x p) (e :: es) [] pos) (tCallW X.prog X.w X.K X.mg X.base k n i E t) := by
  refine ⟨fun pins s σ H Q I h => ?_⟩
  obtain ⟨f, F, sp, Fn, hs, hf, ht⟩ := h
  refine wpAny_Call_Name_kw (thn ((pe_var (pos := p) hN hv hd hcd).run pins s σ H (fun v H1 => v = .ref f ∧ H1 = H) I ⟨.ref f, hs, rfl, rfl⟩) fun u s1 got => ?_)
  obtain ⟨_, _, J, rv, rfl, rfl⟩ := got
  obtain rfl : u = Value.ref f := rv
  refine PySem.W.callWith_F (first := []) (NdefX.fnAt_of J hf) (thn (ha.run pos pins s1 σ _ _ J ht) fun us s2 got => ?_) he hpl
  obtain ⟨vs, H2, J2, rvs, h1, h2, q⟩ := got
  refine ⟨NdefX.fnAt_of J2 h1, ?_⟩
  show wpAny _ _ (call (.ref f) us) _ _ _
  refine wpAny_call (codeAny_mono (Fn.run X.A X.stack s2 H2 us vs Q (E σ) (hr.mono hk) hgd J2.env0 h1 h2 rvs q) fun r s' hq => ?_)
  cases r with
  | error e => exact hx σ pins H2 s2 e s' J2 hq
  | ok fl =>
    cases fl with
    | ret u => exact J2.after hq
    | next => exact False.elim hq
    | brk => exact False.elim hq
    | cont => exact False.elim hq
theorem tr_pure {K : PySem.W.Frag} {G : Hp} {s : S} {c : T} {v : V} (g : Same G s.G) (h : TR K ⟨[], G, G⟩ c v) : TR K s c v := by
  cases c with
  | dat d => exact dp_up g h
  | loc n => obtain ⟨a, h1, _⟩ := h; simp at h1
  | exc a d n => have := h.2; simp at this
  | fn f q => exact ⟨h.1, fun G' g' => h.2 G' (g.trans g')⟩
theorem trs_pure {K : PySem.W.Frag} {G : Hp} {s : S} {cs : List T} {vs : List V} (g : Same G s.G) (h : TRs K ⟨[], G, G⟩ cs vs) : TRs K s cs vs := Paired.mapP h fun _ _ z => tr_pure g z
/-- x(e, ..), x a name that holds a function value of n parameters -/
def wCallV (pn : PN) (k n i : Nat) (wa : WpA) : WpE := fun env μ P PX => ∃ f dsp cs, env[i]? = some (some (.fn f (pn k n f dsp cs))) ∧ wa env μ (fun ts μ1 => callD dsp (ts ++ cs) μ1 P PX) PX
theorem je_callV (hr : Room j X.A) (hgd : X.A.guards = some []) (tk : Takes X W) (ha : JA X W (e :: es) wa) (hk : k ≤ j := by decide) (hN : X.N[i]? = some x := by rfl) (hv : Vis X.env.scope x := by first | exact Or.inl rfl | exact Or.inr (Or.inl rfl) | exact Or.inr (Or.inr rfl))
    (hd : (x == ("__debug__" : Str)) = false := by decide) (hcd : (x == ("__classdict__" : Str)) = false := by decide)
    (he : starEach (e :: es) X.env = (false, eval e X.env) :: starEach es X.env := by rfl) (hpl : (backTo pos (starEach es X.env)).any (·.1) = false := by rfl) :
    JE X W (.Call (.Name x p) (e :: es) [] pos) (wCallV (pN X.prog X.w X.K X.mg X.base) k n i wa) := by
  obtain ⟨_, pa, sa⟩ := ha
  refine ⟨_, pe_callV (k := k) (n := n) hr hgd hk (passAt tk) hN hv pa hd hcd he hpl, fun s μ env σ P PX r en hw th Q q => ?_⟩
  obtain ⟨f, dsp, cs, hi, hw⟩ := hw
  obtain ⟨v, hs, rfl, hp⟩ := en.get hi
  obtain ⟨F, ws, ⟨hf, hc⟩, cw, Fn⟩ := hp s.G (Same.refl _)
  refine ⟨f, F, _, Fn, hs, r.sub _ _ hf, ?_⟩
  refine sa s μ env σ _ PX r en hw th _ fun s1 vs ts μ1 e1 r1 t1 h1 => ⟨r1.sub _ _ (e1.g _ _ hf), r1.sub _ _ (e1.g _ _ hc), ?_⟩
  exact callD_ok r1 (TRs.append t1 (trs_pure e1.g cw)) h1 (th.up e1) fun s2 v t μ2 e2 r2 t2 h2 => q s2 v t μ2 (e1.trans e2) r2 t2 h2
end
end DL
/-! DL46: a def hands its own functions on: from then on their cells stand in the heap that never changes. -/
namespace DL
open PySem PySem.Spec L2
open PyProof.Rows (envOfC)
open NdefX (FnO NScope CellsAt startF envF ncx Caps slotAt TabsN NTab)
open LamX (CodeO TabB ExtN)
abbrev Grown (a b : Heap) : Prop := ∀ x o, a.get? x = some o → b.get? x = some o
section
variable {X : Cx} {pins : List (Addr × Obj)} {σ : St} {H : Hp} {s : Shared}
theorem cells_grow (I : Inv X pins σ H s) (hfn : ∀ x, X.fn x = true) : ∃ bb : Heap, Grown X.base bb ∧ (∀ x c, X.env.cells.lookup x = some c → ∀ v, s.heap.IsCell c v → bb.IsCell c v) ∧ Env0 X.prog X.w X.K X.mg bb X.A X.stack s H := by
  classical
  obtain ⟨Hh, hH⟩ : ∃ Hh : Hp, Hh = fun b => if (∃ o, X.base.get? b = some o) ∨ (∃ x, X.env.cells.lookup x = some b) then none else some (.own 0) := ⟨_, rfl⟩
  have k1 : ∀ {b}, ((∃ o, X.base.get? b = some o) ∨ (∃ x, X.env.cells.lookup x = some b)) → Hh b = none := fun {b} h => by rw [hH]; exact if_pos h
  have k2 : ∀ {b}, Hh b = none → (∃ o, X.base.get? b = some o) ∨ (∃ x, X.env.cells.lookup x = some b) := fun {b} h => by
    by_cases c : (∃ o, X.base.get? b = some o) ∨ (∃ x, X.env.cells.lookup x = some b)
    · exact c
    · rw [hH] at h
      have h : (if (∃ o, X.base.get? b = some o) ∨ (∃ x, X.env.cells.lookup x = some b) then none else some (HO.own 0)) = none := h
      rw [if_neg c] at h
      cases h
  have up : Grown X.base (hidT s.heap Hh) := fun b o e => hidT_get (I.bk b o e) (k1 (.inl ⟨o, e⟩))
  have e0 := I.env0
  refine ⟨hidT s.heap Hh, up, fun x c e v hc => ?_, ⟨e0.frames, ⟨e0.mod.kin.keeps up, e0.mod.glob.keeps up, ?_, e0.mod.nolimit.keeps up⟩, fun b o e => ?_, Nat.le_of_eq (hidT_size _ _), ?_, e0.frf, e0.hok, e0.bare⟩⟩
  · obtain ⟨o, ho, hd⟩ := hc
    exact ⟨o, hidT_get ho (k1 (.inr ⟨x, e⟩)), hd⟩
  · obtain ⟨mb, h1, h2⟩ := e0.mod.blt
    exact ⟨mb, h1.keeps up, h2⟩
  · obtain ⟨e1, e2⟩ := of_hidT e
    rcases k2 e2 with ⟨o', z⟩ | ⟨x, z⟩
    · exact ⟨e1, (I.bs b o' z).2⟩
    · exact ⟨e1, I.freeC x b z⟩
  · refine funFrames_none e0.funs fun L hL => ?_
    have n1 := (e0.funs.mem hL).1
    cases q : (hidT s.heap Hh).get? L with
    | none => rfl
    | some o =>
      exfalso
      obtain ⟨e1, e2⟩ := of_hidT q
      rcases k2 e2 with ⟨o', z⟩ | ⟨x, z⟩
      · rw [n1] at z; cases z
      · have out : L ∈ frs X.outer → False := fun m => by
          have ge := I.ok.cab x L (hfn x) z
          obtain ⟨_, u, hu, _⟩ := I.ok.funs.mem m
          exact absurd (Heap.lt_size hu) (Nat.not_lt.mpr ge)
        rcases I.ok.stk with st | ⟨st, fr⟩
        · exact out (by rw [st] at hL; exact hL)
        · rw [st] at hL
          have hL : L ∈ (X.env :: X.outer).filterMap (·.frame) := hL
          rw [List.filterMap_cons, fr] at hL
          rcases List.mem_cons.mp hL with e | e
          · exact I.cne x L z e
          · exact out e
end
/-- a function of this def: its slot, the slots of what it captured, its level, its parameters, its promise; what is known of it here -/
structure Clo where
  i : Nat
  js : List Nat
  k : Nat
  n : Nat
  dsp : DSp
  po : Addr → Addr → Hp → Prop
def PureT : T → Prop
  | .dat _ => True
  | .fn _ _ => True
  | _ => False
def wClose (pn : PN) : List Clo → En → (En → Prop) → Prop
  | [], env, k => k env
  | c :: r, env, k => ∃ f c', env[c.i]? = some (some (T.fn f (c.po f c'))) ∧ ∃ cs : List T, c.js.map (fun j => env[j]?) = cs.map (fun t => some (some t)) ∧ (∀ t ∈ cs, PureT t) ∧
    wClose pn r (env.set c.i (some (T.fn f (pn c.k c.n f c.dsp cs)))) k
def ClT (env' : En) (t t' : T) : Prop := t = t' ∨ ∃ (i : Nat) (f : Addr) (q q' : Hp → Prop), t = .fn f q ∧ t' = .fn f q' ∧ env'[i]? = some (some (T.fn f q'))
def wCallC (L : List Clo) (dsp : PN → DSp) (wa : WpA) : WpE := fun env μ P PX => wa env μ (fun ts μ1 => ∀ pn : PN, wClose pn L env fun env' => ∃ ts', Paired (ClT env') ts ts' ∧ callD (dsp pn) ts' μ1 P PX) PX
structure CloOk (X : Cx) (c : Clo) : Prop where
  ex : ∃ (mk : Addr → NdefX.NF) (cl : List (Str × Addr)) (fr : List Str), c.po = (fun f c' => pO f (mk c')) ∧ (∀ c', (mk c').cl = cl) ∧ (X.Ok → Caps X cl fr c.js) ∧
    ∀ (bb : Heap) (f c' : Addr) (ws : List V), Grown X.base bb → CB bb cl fr ws → NG X.prog X.w X.K X.mg bb c.k f (mk c') c.n (fun vs H Q E => toSp X.K c.dsp (vs ++ ws) H Q E)
theorem cloOk {X : Cx} {st : Stmt} {name : Str} {i k n : Nat} {js : List Nat} {fr : List Str} {dsp : DSp} (nb : NdefX.ndefB X.env.scope (C8.fnScope st) fr = true) (hjs : js.map (fun j => X.N[j]?) = fr.map some)
    (hG : ∀ (bb : Heap) (f c' : Addr) (q : Str) (cl : List (Str × Addr)) (ws : List V), CB bb cl fr ws → NG X.prog X.w X.K X.mg bb k f (NdefX.NF.of st name q cl c') n (fun vs H Q E => toSp X.K dsp (vs ++ ws) H Q E)) :
    CloOk X ⟨i, js, k, n, dsp, fun f c' => pO f (NdefX.NF.of st name (X.env.qual ++ name) (cloFrom X.env.cells (C8.fnScope st).names []) c')⟩ :=
  ⟨NdefX.NF.of st name (X.env.qual ++ name) (cloFrom X.env.cells (C8.fnScope st).names []), _, fr, rfl, fun _ => rfl, fun ok => Caps.made ok (NdefX.ndef_free nb) (NdefX.ndef_fr nb) hjs, fun bb f c' ws _ C => hG bb f c' _ _ ws C⟩
theorem clo_nil {X : Cx} : ∀ c ∈ ([] : List Clo), CloOk X c := fun c h => by simp at h
theorem clo_cons {X : Cx} {c : Clo} {L : List Clo} (h : CloOk X c) (h2 : ∀ c ∈ L, CloOk X c) : ∀ d ∈ c :: L, CloOk X d := fun d m => by
  rcases List.mem_cons.mp m with e | e
  · rw [e]; exact h
  · exact h2 d e
/-- the heap bb holds the cells of the functions in L -/
def Holds (X : Cx) (L : List Clo) (σ : St) (bb : Heap) : Prop := Grown X.base bb ∧ ∀ c ∈ L, ∀ cl fr, Caps X cl fr c.js → ∀ ws : List V, c.js.map (slotAt σ) = ws.map some → CB bb cl fr ws
section
variable {X : Cx} {W : WX} {L : List Clo} {σ : St} {H : Hp} {s : Shared} {pins : List (Addr × Obj)}
theorem holds_of (I : Inv X pins σ H s) {bb : Heap} (g : Grown X.base bb) (hc : ∀ x c, X.env.cells.lookup x = some c → ∀ v, s.heap.IsCell c v → bb.IsCell c v) : Holds X L σ bb := by
  refine ⟨g, fun c _ cl fr cp ws e => ?_⟩
  have C := NdefX.cells_of I cp
  rw [e] at C
  refine ⟨by have := C.len; rw [List.length_map] at this; exact this, fun y a h => ?_, C.inj, fun i y h => ?_⟩
  · obtain ⟨_, v, z⟩ := C.all y a h
    exact ⟨v, hc y a (cp.sub y a h) v z⟩
  · obtain ⟨a, ha, hv⟩ := C.has i y h
    refine ⟨a, ha, fun v ev => ?_⟩
    obtain ⟨u, ru, z⟩ := hv v (by rw [List.getElem?_map, ev]; rfl)
    exact ⟨u, ru, hc y a (cp.sub y a ha) _ z⟩
theorem slots_of {K : PySem.W.Frag} {s : S} {env : En} (en : EnR K s env σ) : ∀ {js : List Nat} {cs : List T}, js.map (fun j => env[j]?) = cs.map (fun t => some (some t)) → ∃ ws : List V, js.map (slotAt σ) = ws.map some ∧ TRs K s cs ws
  | [], [], _ => ⟨[], rfl, .nil⟩
  | [], _ :: _, h => by simp at h
  | _ :: _, [], h => by simp at h
  | j :: js, t :: cs, h => by
    rw [List.map_cons, List.map_cons] at h
    obtain ⟨h1, h2⟩ := List.cons.inj h
    obtain ⟨v, e, tv⟩ := en.get h1
    obtain ⟨ws, e2, tw⟩ := slots_of en h2
    exact ⟨v :: ws, by rw [List.map_cons, List.map_cons, e2, NdefX.slotAt_of e], .cons tv tw⟩
theorem pure_tr {K : PySem.W.Frag} {s : S} {G : Hp} (g : Same s.G G) {t : T} {v : V} (p : PureT t) (h : TR K s t v) : TR K ⟨[], G, G⟩ t v := by
  cases t with
  | dat d => exact dp_up g h
  | loc n => exact p.elim
  | exc a d n => exact p.elim
  | fn f q => exact ⟨h.1, fun G' g' => h.2 G' (g.trans g')⟩
theorem pure_trs {K : PySem.W.Frag} {s : S} {G : Hp} (g : Same s.G G) : ∀ {cs : List T} {ws : List V}, (∀ t ∈ cs, PureT t) → TRs K s cs ws → TRs K ⟨[], G, G⟩ cs ws
  | _, _, _, .nil => .nil
  | _, _, p, .cons h1 h2 => .cons (pure_tr g (p _ List.mem_cons_self) h1) (pure_trs g (fun t m => p t (List.mem_cons_of_mem _ m)) h2)
theorem set_selfV {σ : St} {i : Nat} {o : Option V} (h : σ[i]? = some o) : σ.set i o = σ := by
  apply List.ext_getElem?
  intro j
  by_cases e : i = j
  · subst e
    rw [List.getElem?_set_self (List.getElem?_eq_some_iff.mp h).1, h]
  · rw [List.getElem?_set_ne e]
theorem close_ok {s : S} {bb : Heap} (ok : X.Ok) : ∀ {L : List Clo} {env : En} {k : En → Prop}, (∀ c ∈ L, CloOk X c) → Holds X L σ bb → EnR X.K s env σ → wClose (pN X.prog X.w X.K X.mg bb) L env k → ∃ env', EnR X.K s env' σ ∧ k env'
  | [], env, k, _, _, en, h => ⟨env, en, h⟩
  | c :: r, env, k, hL, hb, en, h => by
    obtain ⟨f, c', hi, cs, hj, pu, h⟩ := h
    obtain ⟨mk, cl, fr, ep, ec, cp, hN⟩ := (hL c List.mem_cons_self).ex
    obtain ⟨ws, ew, tw⟩ := slots_of en hj
    obtain ⟨v, hs, rfl, hp⟩ := en.get hi
    have C := hb.2 c List.mem_cons_self cl fr (cp ok) ws ew
    have tf : TR X.K s (.fn f (pN X.prog X.w X.K X.mg bb c.k c.n f c.dsp cs)) (.ref f) := ⟨rfl, fun G g => ⟨mk c', ws, by
      have := hp G g
      rw [ep] at this
      exact this, pure_trs g pu tw, hN bb f c' ws hb.1 C⟩⟩
    have en2 := EnR.set tf c.i en
    rw [set_selfV hs] at en2
    exact close_ok ok (fun x m => hL x (List.mem_cons_of_mem _ m)) ⟨hb.1, fun x m => hb.2 x (List.mem_cons_of_mem _ m)⟩ en2 h
theorem clt_trs {K : PySem.W.Frag} {s : S} {env' : En} (en : EnR K s env' σ) : ∀ {ts ts' : List T} {vs : List V}, Paired (ClT env') ts ts' → TRs K s ts vs → TRs K s ts' vs
  | _, _, _, .nil, h => by cases h; exact .nil
  | _, _, _, .cons c1 c2, h => by
    cases h with
    | cons h1 h2 =>
      refine .cons ?_ (clt_trs en c2 h2)
      rcases c1 with rfl | ⟨i, f, q, q', rfl, rfl, hi⟩
      · exact h1
      · obtain ⟨v, _, h3⟩ := en.get hi
        obtain rfl := h1.1
        obtain rfl := h3.1
        exact h3
def tCallC (X : Cx) (L : List Clo) (dsp : PN → DSp) (E : St → XK) (t : TA) : TE := fun σ H Q => t σ H fun vs H1 => ∀ bb, X.Ok → Holds X L σ bb → toSp X.K (dsp (pN X.prog X.w X.K X.mg bb)) vs H1 Q (E σ)
/-- x(e, ..), the def x of the text, among what is handed on functions of this def -/
theorem je_callC {k j : Nat} {dsp : PN → DSp} {x : Str} {p pos : Pos} {e : Expr} {es : List Expr} {wa : WpA} (hL : ∀ c ∈ L, CloOk X c) (B : ∀ bb, Def1 X.prog X.w X.K X.mg bb x k (dsp (pN X.prog X.w X.K X.mg bb))) (hr : Room j X.A) (hgd : X.A.guards = some []) (tk : Takes X W) (hfn : ∀ x, X.fn x = true)
    (ha : JA X W (e :: es) wa) (hk : k ≤ j := by decide) (hg : Gl X x := by rfl) (hdb : (x == ("__debug__" : Str)) = false := by decide) (he : starEach (e :: es) X.env = (false, eval e X.env) :: starEach es X.env := by rfl) (hpl : (backTo pos (starEach es X.env)).any (·.1) = false := by rfl) :
    JE X W (.Call (.Name x p) (e :: es) [] pos) (wCallC L dsp wa) := by
  obtain ⟨ta, pa, sa⟩ := ha
  refine ⟨tCallC X L dsp (WE W) ta, ⟨fun pins s σ H Q I h => ?_⟩, fun s μ env σ P PX r en hw th Q q => ?_⟩
  · obtain ⟨f, _, _, _, hm, hkp, _⟩ := (B X.base).ex
    refine wpAny_Call_Name_kw (ld_glob I hg hm ?_ hdb)
    refine PySem.W.callWith_K (h₀ := X.base) I.ok.mod.kin hkp (thn (pa.run pos pins s σ H _ I h) fun us s1 got => ?_) he hpl
    obtain ⟨vs, H1, I1, rv, h1⟩ := got
    refine ⟨I1.kIn, ?_⟩
    obtain ⟨bb, g, hc, e0⟩ := cells_grow I1 hfn
    obtain ⟨f', fd, ps, F, hm', _, hb⟩ := (B bb).ex
    have ef : f' = f := by
      have := hm'.symm.trans hm
      cases this
      rfl
    subst ef
    have hsp := h1 bb I1.ok (holds_of I1 g hc)
    have hl : us.length = ps.length := by rw [← rv.length]; exact F.len _ _ _ _ hsp
    have bn := hb s1 us I1.kIn (by rw [List.append_nil]; exact hl)
    rw [List.append_nil] at bn
    show wpAny _ _ (call (.ref f') us) _ _ _
    refine wpAny_call (codeAny_mono (F.run X.A X.stack s1 H1 ⟨us, []⟩ us vs Q (WE W σ) (hr.mono hk) hgd e0 bn rv hsp) fun r s' hq => ?_)
    cases r with
    | error e => exact passAt tk σ pins H1 s1 e s' I1 hq
    | ok fl =>
      cases fl with
      | ret u => exact I1.after hq
      | next => exact False.elim hq
      | brk => exact False.elim hq
      | cont => exact False.elim hq
  · refine sa s μ env σ _ PX r en hw th _ fun s1 vs ts μ1 e1 r1 t1 h1 => fun bb ok hb => ?_
    obtain ⟨env', en', ts', ct, h2⟩ := close_ok ok hL hb (en.up e1) (h1 (pN X.prog X.w X.K X.mg bb))
    exact callD_ok r1 (clt_trs en' ct t1) h2 (th.up e1) fun s2 v t μ2 e2 r2 t2 h3 => q s2 v t μ2 (e1.trans e2) r2 t2 h3
end
/-! ### a def with functions of its own -/
section
variable {P : Program} {w : World} {K : PySem.W.Frag} {mg : Str → Option Value} {base : Heap}
/-- as FnD.ok; the body's reading may depend on the entry, and the def's object is told -/
theorem FnD.okE {x qual : Str} {st : Stmt} {f : Addr} {fd : FuncData} {N ps : List Str} {k : Nat} {dsp : DSp} (F : Fun K x qual st f fd) (S : FnScope N ps (defScope st)) (len : ∀ ts μ PT PX, dsp ts μ PT PX → ts.length = ps.length)
    (hbody : ∀ (cdv : Value) (A : Around) (outer : List Env) (s : Shared) (H : Hp) (E : XK), (∃ (oc : Option Addr) (od : Value) (kV doc pm : Value) (an : Option Addr) (ct : Value) (osl : Array (Option Value)), K.lookup f = some ⟨od, oc, .func (PySem.W.fnOf x qual (defArgs st) (defBody st) (defScope st) .none kV doc pm an cdv ct), osl⟩) →
      Room k (A.deeper (envOfC qual (defScope st) s.heap.objs.size f cdv)) → (A.deeper (envOfC qual (defScope st) s.heap.objs.size f cdv)).guards = some [] →
      ∃ ws : WpS, JB (cxOf (L2.CX P w) P w K mg base N qual (defScope st) f cdv A outer s H E) (fun c d _ H => E c d H) (defBody st) ws ∧
        ∀ ts μ PT PX, dsp ts μ PT PX → ws { nx := fun _ μ' => endV μ.length PT (.dat .none) μ', rt := endV μ.length PT, ex := fun C t _ μ' => endV μ.length (PX C) t μ' } (startE N.length ts) μ) :
    FnG P w K mg base (k + 1) f fd ps (toSp K dsp) := by
  obtain ⟨oc, od, kV, doc, pm, an, cdv, ct, osl, rfl, lk, hcd⟩ := F.ex
  refine fn_ofG lk hcd S (fun vs H Q E ⟨s, ts, μ, PT, PX, _, _, tv, hd, _⟩ => by rw [← tv.len]; exact len ts μ PT PX hd) fun A outer s H vs Q E hr hgd hsp => ?_
  obtain ⟨s0, ts, μ, PT, PX, rfl, r, tv, hd, q, qx⟩ := hsp
  obtain ⟨ws, ⟨t, ht, st⟩, hw⟩ := hbody cdv A outer s s0.H E ⟨_, _, _, _, _, _, _, _, lk⟩ hr hgd
  refine ⟨t, ht, st s0 μ (startE N.length ts) (L2.start N vs) _ _ r (start_ok tv) (hw ts μ PT PX hd) ⟨fun s' μ' env σ e r' en h => ?_, fun s' μ' v t e r' tv' h => ?_, fun s' μ' env σ e r' en h => h.elim, fun s' μ' env σ e r' en h => h.elim, fun s' μ' env σ C d v t e r' en hx tv' h => ?_⟩⟩
  · exact endV_ok e r.len r' (v := .non) mk_none h q
  · exact endV_ok e r.len r' tv' h q
  · obtain ⟨μf, V, t0, μ0, fz, hv, vw, et, hp⟩ := h
    obtain ⟨s1, hh, hi, e1, r1⟩ := fz_ok fz r'
    have tv1 : TR K s1 (t0.ren (fV V μf)) v := et ▸ nm_ok r1 (tv'.up e1)
    have io := endV_ext (e.trans e1) r.len r1 hv vw
    have hg1 : s1.G d = none := by
      cases q : s1.G d with
      | none => rfl
      | some u =>
        rcases e1.nw d (by rw [q]; exact fun z => by cases z) hx.g with z | z | ⟨o1, z, k⟩
        · rw [hx.h] at z; cases z
        · exact absurd z hx.n
        · rw [hx.h] at z; cases z; exact absurd nk_xd k
    rw [← hh]
    exact qx ⟨adr s1 V, s1.G, s1.H⟩ C d v t0 μ0 io (r1.view vw) ⟨by show s1.H d = _; rw [hh]; exact hx.h, hx.o, hg1, fun m => hx.n (by rw [← hi]; exact adr_mem r1 vw.lt m)⟩ (tr_in (s := s1) (s0 := ⟨adr s1 V, s1.G, s1.H⟩) (Same.refl _) (fun n a z => view_in r1 vw.lt n a z) tv1) hp
/-- the def's table, by the facts of K -/
def tbB (x : Str) (K : PySem.W.Frag) : Bool := match K.lookup (He.ga K x) with
  | some (⟨_, _, Data.func fd, _⟩ : Obj) => (match fd.code with
    | Value.ref c => (match fldOf K c with
      | some P => (K.lookup P).isNone && PySem.W.codeHdIn K c P && onlyB K (He.ga K x) P && mainGlobals != P && He.ga K "__builtins__" != P && He.ga K "__builtins__" != builtinsNs && He.ga K "__builtins__" != mainGlobals && (match K.lookup (He.ga K "__builtins__") with
        | some (⟨Value.type "module", some d, Data.plain, _⟩ : Obj) => d == builtinsNs
        | _ => false)
      | none => false)
    | _ => false)
  | _ => false
theorem tb_of {x qual : Str} {st : Stmt} {cdv : Value} (c : tbB x K = true) (hb : mg "__builtins__" = some (.ref (He.ga K "__builtins__")))
    (lk : ∃ (oc : Option Addr) (od : Value) (kV doc pm : Value) (an : Option Addr) (ct : Value) (osl : Array (Option Value)), K.lookup (He.ga K x) = some ⟨od, oc, .func (PySem.W.fnOf x qual (defArgs st) (defBody st) (defScope st) .none kV doc pm an cdv ct), osl⟩) :
    ∃ a P, cdv = .ref a ∧ (P, nmOf qual (defBody st)) ∈ tabs K ∧ ∀ base : Heap, K.In base → TabB base mg a P := by
  obtain ⟨oc, od, kV, doc, pm, an, ct, osl, lk⟩ := lk
  unfold tbB at c
  rw [lk] at c
  cases cdv with
  | ref a =>
    have c : (match fldOf K a with
      | some P => (K.lookup P).isNone && PySem.W.codeHdIn K a P && onlyB K (He.ga K x) P && mainGlobals != P && He.ga K "__builtins__" != P && He.ga K "__builtins__" != builtinsNs && He.ga K "__builtins__" != mainGlobals && (match K.lookup (He.ga K "__builtins__") with
        | some (⟨Value.type "module", some d, Data.plain, _⟩ : Obj) => d == builtinsNs
        | _ => false)
      | none => false) = true := c
    cases hP : fldOf K a with
    | none => rw [hP] at c; exact Bool.noConfusion (show false = true from c)
    | some P =>
      rw [hP] at c
      simp only [Bool.and_eq_true, bne_iff_ne, ne_eq] at c
      obtain ⟨⟨⟨⟨⟨⟨⟨c1, c2⟩, c3⟩, c4⟩, c5⟩, c6⟩, c7⟩, c8⟩ := c
      refine ⟨a, P, rfl, tabs_at lk ?_ c3, fun base kin => ⟨PySem.W.codeHd_of_K kin c2, ?_, c4⟩⟩
      · show (match fldOf K a with
            | some P => if ((K.lookup P).isNone && PySem.W.codeHdIn K a P) = true then (some (P, nmOf qual (defBody st)) : Option NTab) else none
            | none => none) = _
        rw [hP]
        show (if ((K.lookup P).isNone && PySem.W.codeHdIn K a P) = true then (some (P, nmOf qual (defBody st)) : Option NTab) else none) = _
        rw [c1, c2]
        rfl
      · split at c8
        · rename_i d osl' hq
          have ed : d = builtinsNs := eq_of_beq c8
          subst ed
          exact ⟨He.ga K "__builtins__", _, hb, c6, c7, c5, kin _ _ hq, rfl, rfl, rfl⟩
        · exact Bool.noConfusion c8
  | _ => exact Bool.noConfusion (show false = true from c)
end
end DL
/-! DL47: {k: v for target in iter if ..}, keys of any kind that a dict here may have. -/
namespace DL
open PySem PySem.Spec L2
open PyProof.Rows hiding St
section
variable {X : Cx} {pins : List (Addr × Obj)} {σ : St} {H : Hp} {s : Shared}
theorem dput_go {E : Value → Shared → Prop} {D : Addr} {y v : V} {u r : Value} {H' : Hp} {Q : Unit → Shared → Prop} (hu : X.A.units < cLine) (I : Inv X pins σ H s) (g : DPut H D y v H') (ry : RelV y u) (rv : RelV v r)
    (h : ∀ s', Inv X pins σ H' s' → Q () s') : wpAny (model X.prog X.w) X.A (dictSet D u r) Q E s := by
  rcases g with ⟨kvs, k, e, ey, l, eH⟩ | ⟨kvs, k, b, e, ey, eb, l, eH⟩
  · rw [eH] at h
    rw [ey] at ry
    exact d_dictSet I e l ry rv h
  · rw [eH] at h
    rw [ey] at ry
    obtain rfl : u = Value.ref b := ry
    obtain ⟨z, hd, xs, rel, dd⟩ := dt_of I.hok e
    have many : (putK kvs k v).length ≤ sizeLine := Nat.le_trans (length_putK kvs k v) l
    refine wpAny_dictSet_heap (hsz := (by rw [← Paired.length rel]; exact z)) (show (tupleKind (mixKind X.prog X.w)).room X.A from hu) (key_of I.hok eb) dd fun h' dd' sb => h _ ?_
    obtain ⟨ob, es, ep, hq, x2, x3, x4, _, x5⟩ := dd'
    refine d_write I (by rw [e]; exact True.intro) sb ⟨ob, hq⟩ ⟨many, hd, _, (rel.put k eb rv).keeps fun c ys ec => ?_, ob, es, ep, hq, x2, x3, x4, x5⟩
    exact (upd_ne (ne_of ec e (fun z => nomatch z))).trans ec
/-- D the new dict, of the kind that is wanted -/
def tDcA (wi : TI) (g : TG) (tt : TT) (tk tv : TE) (vs : List Nat) : TE := fun σ H Q => wi σ H fun J H1 => ∀ D, H1 D = none → ∃ o0, (o0 = HO.dK [] ∨ o0 = HO.dT []) ∧ ∃ W : Nat → Nat → Hp → Prop, (∃ m, W 0 m (upd H1 D o0)) ∧
  ∀ i m H, W i m H → (J.stop i H ∧ Q (.ref D) H) ∨ (J.go i H ∧ ∃ Nx : Hp → Prop, (∀ H', Nx H' → ∃ m', m' < m ∧ W (i + 1) m' H') ∧
    ∀ x H', J.yld i H x H' → g x (wipe σ vs) H' fun σ2 H2 => wipe σ2 vs = wipe σ vs ∧ tt σ2 H2 fun b H3 => if b = true then tk σ2 H3 fun y H4 => tv σ2 H4 fun z H5 => ∃ H6, DPut H5 D y z H6 ∧ Nx H6 else Nx H3)
abbrev Blk (X : Cx) (scope : Scope) (p : Cx → Prop) : Prop := ∀ (s : Shared) (H : Hp) (C : Addr) (cl : List (Str × Addr)) (fp : List Addr), p (X.blk s H scope (compEnvC scope cl C X.env) fp)
theorem dcA_core {Q : VK} {use : Option (Value → Sem Unit)} {Qf : Value → Shared → Prop} {kx vx tg iter : Expr} {ifs : List Expr} {scope : Scope} {own : List (Str × Nat)} {pos pos' : Pos} {wi : TI} {g : TG} {tt : TT} {tk tv : TE} (hc : X.calm = true) (hN : X.N.Nodup) (hu : X.A.units < cLine) (I : Inv X pins σ H s) (hi : PI X tg iter wi)
    (ok : BlkOk X.N X.env.scope scope own) (hg : Blk X scope fun B => PG B tg g) (ht : Blk X scope fun B => PTs B ifs tt) (hk : Blk X scope fun B => PE B kx tk) (he : Blk X scope fun B => PE B vx tv) (hs : ∀ x, foldedSetIterable iter X.env x = pure x)
    (h : tDcA wi g tt tk tv (own.map (·.2)) σ H Q)
    (back : ∀ D C u m G, Inv X pins σ G u → Q (.ref D) G → u.heap.Ns C m → FpOk X pins G C → compPost (model X.prog X.w) X.A X.xe use Qf (.ref D) C (.ok .next) u) :
    wpAny (model X.prog X.w) X.A (comprehension (.DictComp kx vx [⟨tg, iter, ifs, 0⟩] scope pos) scope X.env pos' newDict false (eval iter X.env) use) Qf X.xe s := by
  have caps : ∀ y ∈ scope.names, y.2 = .free → ∃ c, X.env.cells.lookup y.1 = some c := fun y hy e => (ok.free y hy e).elim (fun k => I.ok.has _ (.inl k)) fun k => I.ok.has _ (.inr k)
  refine wpAny_comprehension_free (use := use) rfl hs (closure_ok caps) ok.kind (fun y hy e => by rw [ok.uniq y hy, e]) (thn (hi.run pins s σ H _ I h) fun xv u1 hx => thn hx fun itv u2 got => ?_)
  obtain ⟨it, fp, tn, J, Ha, ei, Ia, T, sta, fpa, q⟩ := got
  subst ei
  refine wpAny_newObj_type (newEnv_comp ?_)
  obtain ⟨D, hD⟩ : ∃ D, D = u2.heap.objs.size := ⟨_, rfl⟩
  have freshD : Ha D = none := Ia.hok.fresh (Nat.le_of_eq hD.symm)
  obtain ⟨o0, ho0, W, ⟨m0, w0⟩, turn⟩ := q D freshD
  obtain ⟨u3, hu3⟩ : ∃ u3 : Shared, u3 = { u2 with heap := u2.heap.push { cls := .type "dict", data := .dict #[] } } := ⟨_, rfl⟩
  obtain ⟨Hb, hHb⟩ : ∃ Hb : Hp, Hb = upd Ha D o0 := ⟨_, rfl⟩
  have heap3 : u3.heap = u2.heap.push { cls := .type "dict", data := .dict #[] } := by rw [hu3]
  have Ib : Inv X pins σ Hb u3 := by
    rw [hu3, hHb]
    refine Ia.laid (t' := u2.toks) (fun b o e => Heap.get?_push_of_some _ e) (Nat.le_of_eq hD.symm) ?_
    rw [hD]
    rcases ho0 with e | e
    · rw [e]; exact dk_empty u2.heap Ia.big
    · rw [e]; exact dt_empty u2.heap Ia.big
  have low : ∀ b ∈ fp, b < u2.heap.objs.size := fun b hb => let ⟨o, e, _⟩ := T.obj _ _ sta b hb; Heap.lt_size e
  have fpb : ∀ b ∈ fp, FpOk X pins Hb b ∧ b < u3.heap.objs.size := fun b hb => by
    refine ⟨⟨?_, (fpa b hb).2⟩, by rw [heap3, Heap.size_push]; exact Nat.lt_succ_of_lt (low b hb)⟩
    rw [hHb, upd_ne (by rw [hD]; exact Nat.ne_of_lt (low b hb))]
    exact (fpa b hb).1
  have stb : tn 0 u3.heap := T.keep _ _ _ sta fun b _ o e => by rw [heap3]; exact Heap.get?_push_of_some _ e
  have Ic := block_start Ib ok hN fpb
  obtain ⟨ce, hce⟩ : ∃ ce, ce = compEnvC scope (cellsFrom (u3.heap.objs.size + 1) scope.names (cloFrom X.env.cells scope.names [])) u3.heap.objs.size X.env := ⟨_, rfl⟩
  obtain ⟨u4, hu4⟩ : ∃ u4 : Shared, u4 = { u3 with heap := pushCells (u3.heap.push { cls := .type "dict", data := .dict #[] }) scope.names } := ⟨_, rfl⟩
  have pg := hg u3 Hb u3.heap.objs.size (cellsFrom (u3.heap.objs.size + 1) scope.names (cloFrom X.env.cells scope.names [])) fp
  have pt := ht u3 Hb u3.heap.objs.size (cellsFrom (u3.heap.objs.size + 1) scope.names (cloFrom X.env.cells scope.names [])) fp
  have pk := hk u3 Hb u3.heap.objs.size (cellsFrom (u3.heap.objs.size + 1) scope.names (cloFrom X.env.cells scope.names [])) fp
  have pv := he u3 Hb u3.heap.objs.size (cellsFrom (u3.heap.objs.size + 1) scope.names (cloFrom X.env.cells scope.names [])) fp
  rw [← hce] at Ic pg pt pk pv
  rw [← hu4] at Ic
  have cL : ce.locals = u3.heap.objs.size := by rw [hce]; rfl
  have stc : tn 0 u4.heap := T.keep _ _ _ stb fun b _ o e => by rw [hu4]; exact pushCells_keeps _ _ _ _ (Heap.get?_push_of_some _ e)
  have offB : ∀ b ∈ fp, Hb b = none := fun b hb => (fpb b hb).1.1
  have stat : ∀ {τ : St} {G : Hp} {u : Shared}, Inv (X.blk u3 Hb scope ce fp) [] τ G u → (∀ b ∈ fp, G b = none) → ∀ b ∈ fp, FpOk (X.blk u3 Hb scope ce fp) [] G b := fun {τ G u} Iu hn b hb =>
    ⟨hn b hb, (Iu.ok.exf b hb).1, Iu.ok.exfs b hb, .inl hb, fun x c e => (Iu.ok.exf b hb).2 x c e, fun p hp => absurd (show p ∈ ([] : List (Addr × Obj)) ++ [] from hp) (by simp)⟩
  show codeAny _ _ (.compStart (.DictComp kx vx [⟨tg, iter, ifs, 0⟩] scope pos) 0 (.ref it) (.ref u2.heap.objs.size) _) _ _
  rw [← hD]
  suffices loop : codeAny (model X.prog X.w) X.A (.compLoop (.DictComp kx vx [⟨tg, iter, ifs, 0⟩] scope pos) 0 (.ref it) (.ref D) ce) (compPost (model X.prog X.w) X.A X.xe use Qf (.ref D) u3.heap.objs.size) u4 by
    have fin := codeAny_compStart_dict loop (T.self X.A 0 _ _ _ stc loop)
    rw [hce, hu4, hu3] at fin
    exact fin
  refine compLoop_anyD (fun n u => ∃ i G, Inv (X.blk u3 Hb scope ce fp) [] (wipe σ (own.map (·.2))) G u ∧ tn i u.heap ∧ (∀ b ∈ fp, G b = none) ∧ W i n G) ?_ m0 ⟨0, Hb, Ic, stc, offB, by rw [hHb]; exact w0⟩
  rintro n u5 ⟨i, G5, I5, st5, n5, w5⟩
  rcases turn i n G5 w5 with ⟨stop, qq⟩ | ⟨go, Nx, less, step⟩
  · refine thnF (T.done (X.blk u3 Hb scope ce fp) rfl rfl rfl hc i [] u5 _ G5 (fun _ _ => False) I5 (stat I5 n5) st5 stop) fun r u6 ⟨hr, I6⟩ => ?_
    subst hr
    have I7 : Inv X pins σ G5 u6 := Ib.call' (ch := fp) I6.os I6.base I6.hok I6.bare fun b hb => ⟨(fpb b hb).1.2.2.2.1, (fpb b hb).1.2.1, (fpb b hb).1.2.2.2.2.1, (fpb b hb).1.2.2.2.2.2⟩
    have nC : G5 u3.heap.objs.size = none := by
      have z : G5 ce.locals = none := I6.free
      rwa [cL] at z
    obtain ⟨m, hn, _⟩ := I6.loc
    have hn : u6.heap.Ns ce.locals m := hn
    rw [cL] at hn
    exact back D u3.heap.objs.size u6 m G5 I7 qq hn (Ib.fpOk (Nat.le_refl _) nC)
  · refine thnF (T.item (X.blk u3 Hb scope ce fp) rfl rfl rfl hc i [] u5 _ G5 (fun _ _ => False) I5 (stat I5 n5) st5 go) fun r u6 ⟨u, hr, h6⟩ => ?_
    subst hr
    refine thnF h6 fun _ u7 ⟨x, G7, I7, r7, y7, st7, n7⟩ => ?_
    refine thnF (pg.run _ u7 _ G7 x u _ (I7.pinned (stat I7 n7) (T.obj _ _ st7)) r7 (step x G7 y7)) fun _ u8 ⟨σ8, G8, I8, hw8, q8⟩ => ?_
    refine thnF (pt.run _ u8 σ8 G8 _ I8 q8) fun b u9 ⟨G9, I9, q9⟩ => ?_
    have next : ∀ {u : Shared} {G : Hp}, Inv (X.blk u3 Hb scope ce fp) ([] ++ pinsAt fp u7.heap) σ8 G u → Nx G → ∃ m, m < n ∧ ∃ i G, Inv (X.blk u3 Hb scope ce fp) [] (wipe σ (own.map (·.2))) G u ∧ tn i u.heap ∧ (∀ b ∈ fp, G b = none) ∧ W i m G := fun {u G} Iu nx => by
      obtain ⟨m', hm, w'⟩ := less G nx
      have pinned : ∀ b ∈ fp, ∀ o, u7.heap.get? b = some o → u.heap.get? b = some o ∧ G b = none := fun b hb o e =>
        let z := Iu.pin (b, o) (List.mem_append_right _ (List.mem_append_right _ (mem_pinsAt hb e)))
        ⟨z.1, z.2.1⟩
      refine ⟨m', hm, i + 1, G, (Iu.unpinned (pins := [])).weak (by rw [← hw8, wipe_length]) (fun j v e => ?_), T.keep _ _ _ st7 fun b hb o e => (pinned b hb o e).1, fun b hb => ?_, w'⟩
      · rw [← hw8] at e
        exact (wipe_some e).1
      · obtain ⟨o, e, _⟩ := T.obj _ _ st7 b hb
        exact (pinned b hb o e).2
    cases b with
    | false => exact next I9 q9
    | true =>
      refine thnF (pk.run _ u9 σ8 G9 _ I9 q9) fun z u10 ⟨yk, G10, I10, r10, q10⟩ => ?_
      refine thnF (pv.run _ u10 σ8 G10 _ I10 q10) fun z2 u11 ⟨yv, G11, I11, r11, H6, dp, nx⟩ => ?_
      exact dput_go (X := X.blk u3 Hb scope ce fp) hu I11 dp r10 r11 fun u12 I12 => next I12 nx
/-- name = {..} on one line: stored before the block goes -/
theorem ps_setDc {i : Nat} {y : Str} {py : Pos} {kx vx tg iter : Expr} {ifs : List Expr} {scope : Scope} {own : List (Str × Nat)} {pos spos : Pos} {wi : TI} {g : TG} {tt : TT} {tk tv : TE} (hc : X.calm = true) (hN : X.N.Nodup) (hu : X.A.units < cLine) (hy : X.N[i]? = some y)
    (hyl : X.env.scope.names.lookup y = some .local) (hsw : swapsWith (.DictComp kx vx [⟨tg, iter, ifs, 0⟩] scope pos) (some (.Name y py)) spos.line X.env = pure true) (hi : PI X tg iter wi)
    (ok : BlkOk X.N X.env.scope scope own) (hg : Blk X scope fun B => PG B tg g) (ht : Blk X scope fun B => PTs B ifs tt) (hk : Blk X scope fun B => PE B kx tk) (he : Blk X scope fun B => PE B vx tv) (hs : ∀ x, foldedSetIterable iter X.env x = pure x) :
    PS X (.Assign [.Name y py] (.DictComp kx vx [⟨tg, iter, ifs, 0⟩] scope pos) spos) (tAsg (tDcA wi g tt tk tv (own.map (·.2))) (gName i)) := by
  refine ⟨fun pins s σ H D I h => ?_⟩
  rw [exec_Assign_Name_used _ _ _ _ hsw]
  refine wpAny_bind (wpAny_standAt (wpAny_bind ?_))
  show wpAny _ X.A (do let _ ← comprehension (.DictComp kx vx [⟨tg, iter, ifs, 0⟩] scope pos) scope X.env (firstIterPos [⟨tg, iter, ifs, 0⟩] pos) newDict false (eval iter X.env) (some (assign (.Name y py) X.env))) _ _ s
  have h : tDcA wi g tt tk tv (own.map (·.2)) σ H (fun x H1 => gName i x σ H1 D.nx) := h
  refine wpAny_bind (thn (dcA_core (Qf := fun _ u => SP X pins D .next u) hc hN hu I hi ok hg ht hk he hs h fun L C u m G Iu q hn f => ?_) fun _ u hq => wpAny_pure (wpAny_pure hq))
  show wpAny _ _ (assign (.Name y py) X.env (.ref L)) _ _ _
  refine wpAny_assign_Name (store_ok2 (v := V.ref L) Iu hN hy (.inl hyl) rfl (fun u2 I2 ⟨a, sb, ha⟩ => ?_) (.inr hyl))
  obtain ⟨f0, f1, f2, f3, f4, f5⟩ := f
  have far : C ≠ a := by
    rcases ha with z | z
    · rw [z]; exact f1
    · exact fun e => f4 y a z e.symm
  exact ⟨m, hn.sameBut sb far, fun h3 sb3 => ⟨_, G, I2.turned (t' := u2.toks) (fun b o hb e => (sb3.2 b hb).trans e) f0 f1 f3 f4 f5, q⟩⟩
theorem sw_dict {kx vx : Expr} {gs : List Comprehension} {scope : Scope} {pos py : Pos} {y : Str} {l : Nat} {env : Env} (isF : env.scope.kind = .function) (here : env.scope.names.lookup y = some .local) (line : (py.line == pos.line) = true)
    (apart : (scope.names.any fun (n, k) => n == y && (k == .local || k == .cell)) = false) : swapsWith (.DictComp kx vx gs scope pos) (some (.Name y py)) l env = pure true := by
  have e1 : env.kindOf y = some .local := here
  have e2 : env.blockKind = .function := by unfold Env.blockKind; rw [isF]; rfl
  unfold swapsWith
  simp only [e2, e1, apart, Expr.pos, line]
  rfl
end
/-! ### over the data layer -/
def DcG (I : IT) (wg : WpG) (wt : WpT) (wk wv : WpE) (vs : List Nat) (env : En) (μ1 : Mu) (P : KT) : Prop := ∃ o0, (o0 = O.dk [] ∨ o0 = O.dt []) ∧ ∃ Inv : Nat → Mu → Prop, Inv 0 (μ1 ++ [o0]) ∧ (∀ i μ, i ≤ I.n → Inv i μ → I.ok μ) ∧
  (∀ i μ, i < I.n → Inv i μ → I.itm i μ fun t μ2 => wg t (wipeE env vs) μ2 fun env3 μ3 => wt env3 μ3 (fun b μ4 => if b = true then wk env3 μ4 (fun k μ5 => wv env3 μ5 (fun v μ6 => oDSet (.loc μ1.length) k v μ6 (Inv (i + 1))) NX) NX else Inv (i + 1) μ4) NX) ∧
  ∀ μ, Inv I.n μ → P (.loc μ1.length) μ
def wDc (wi : WpI) (wg : WpG) (wt : WpT) (wk wv : WpE) (vs : List Nat) : WpE := fun env μ P PX => wi env μ (fun I μ1 => DcG I wg wt wk wv vs env μ1 P) PX
theorem sn_dc {K : PySem.W.Frag} {W : WX} {wi : TI} {g : TG} {w : WpI} {wg : WpG} {wt : WpT} {wk wv : WpE} {vs : List Nat} (hi : SnI K W wi w) (hg : SnG K g wg) (og : OwG g vs) :
    SnE K W (tDcA wi g (upT K WF wt) (upE K WF wk) (upE K WF wv) vs) (wDc w wg wt wk wv vs) := fun s μ env σ P PX r en h th Q q => by
  refine hi s μ env σ _ PX r en h th _ fun s1 J I μ1 e1 r1 it h1 => ?_
  intro D hD
  obtain ⟨o0, ho0, Inv, i0, ok, turn, fin⟩ := h1
  obtain ⟨ho, hok, s2, hH, e2, r2, tD⟩ : ∃ ho : HO, (ho = HO.dK [] ∨ ho = HO.dT []) ∧ ∃ s2 : S, s2.H = upd s1.H D ho ∧ Ext s1 s2 ∧ Rel K s2 (μ1 ++ [o0]) ∧ TR K s2 (.loc μ1.length) (.ref D) := by
    rcases ho0 with e | e
    · subst e
      exact ⟨_, .inl rfl, new_dk (o := .dk []) r1 hD nk_dK fun s' _ g h => ⟨g, [], h, .nil⟩⟩
    · subst e
      exact ⟨_, .inr rfl, new_dk (o := .dt []) r1 hD nk_dT fun s' _ g h => ⟨g, [], h, .nil⟩⟩
  refine ⟨ho, hok, fun i m H' => ∃ (s' : S) (μ' : Mu), s'.H = H' ∧ Ext s2 s' ∧ Rel K s' μ' ∧ Inv i μ' ∧ i ≤ I.n ∧ m = I.n - i, ⟨I.n, s2, _, hH, Ext.refl s2, r2, i0, Nat.zero_le _, rfl⟩, ?_⟩
  rintro i m H' ⟨s', μ', rfl, e', r', i', le, rfl⟩
  have k := ok i μ' le i'
  by_cases lt : i < I.n
  · refine .inr ⟨it.go s' μ' i (e2.trans e') r' k lt, fun H2 => ∃ (s2' : S) (μ2 : Mu), s2'.H = H2 ∧ Ext s2 s2' ∧ Rel K s2' μ2 ∧ Inv (i + 1) μ2, fun H2 ⟨s3, μ3, a1, a2, a3, a4⟩ => ⟨I.n - (i + 1), by omega, s3, μ3, a1, a2, a3, a4, lt, rfl⟩, fun x H2 y => ?_⟩
    obtain ⟨s3, t, μ3, rfl, e3, r3, t3, h3⟩ := it.yld s' μ' i _ (e2.trans e') r' k lt (turn i μ' lt i') x H2 y
    refine og σ x _ _ _ (wipe_wipe σ vs) (hg s3 μ3 (wipeE env vs) (wipe σ vs) t x _ r3 (wipe_en ((en.up e1).up ((e2.trans e').trans e3)) vs) t3 h3 _ fun s4 env4 σ4 μ4 e4 r4 en4 h4 => ?_)
    refine sn_upT s4 μ4 env4 σ4 _ NX r4 en4 h4 thrF _ fun s5 b μ5 e5 r5 h5 => ?_
    have ea : Ext s2 s5 := e'.trans ((e3.trans e4).trans e5)
    cases b with
    | true =>
      rw [if_pos rfl] at h5 ⊢
      refine sn_upE s5 μ5 env4 σ4 _ NX r5 (en4.up e5) h5 thrF _ fun s6 y6 k6 μ6 e6 r6 t6 h6 => ?_
      refine sn_upE s6 μ6 env4 σ4 _ NX r6 ((en4.up e5).up e6) h6 thrF _ fun s7 z7 v7 μ7 e7 r7 t7 h7 => ?_
      have eb := (ea.trans e6).trans e7
      obtain ⟨a, H8, ead, dp, nx⟩ := s_dset s7 μ7 (.loc μ1.length) k6 v7 (.ref D) y6 z7 _ r7 (tD.up eb) (t6.up e7) t7 h7 (fun H2 => ∃ (s2' : S) (μ2 : Mu), s2'.H = H2 ∧ Ext s2 s2' ∧ Rel K s2' μ2 ∧ Inv (i + 1) μ2) fun s8 μ8 e8 r8 h8 => ⟨s8, μ8, rfl, eb.trans e8, r8, h8⟩
      cases ead
      exact ⟨H8, dp, nx⟩
    | false =>
      rw [if_neg Bool.false_ne_true] at h5 ⊢
      exact ⟨s5, μ5, rfl, ea, r5, h5⟩
  · have ei : i = I.n := by omega
    subst ei
    exact .inl ⟨it.stop s' μ' (e2.trans e') r' k, q s' (.ref D) _ μ' (e1.trans (e2.trans e')) r' (tD.up e') (fin μ' i')⟩
section
variable {X : Cx} {W : WX} {kx vx tg iter : Expr} {ifs : List Expr} {scope : Scope} {own : List (Str × Nat)} {pos : Pos} {w : WpI} {g : TG} {wg : WpG} {wt : WpT} {wk wv : WpE}
theorem js_setDc {i : Nat} {y : Str} {py spos : Pos} (hc : X.calm = true) (hN : X.N.Nodup) (hu : X.A.units < cLine) (hi : JI X W tg iter w) (ok : BlkOk X.N X.env.scope scope own)
    (hg : Blk X scope fun B => PG B tg g) (sg : SnG X.K g wg) (og : OwG g (own.map (·.2))) (ht : Blk X scope fun B => JTs B WF ifs wt) (hk : Blk X scope fun B => JE B WF kx wk) (hv : Blk X scope fun B => JE B WF vx wv)
    (hsw : swapsWith (.DictComp kx vx [⟨tg, iter, ifs, 0⟩] scope pos) (some (.Name y py)) spos.line X.env = pure true) (hy : X.N[i]? = some y := by rfl) (hyl : X.env.scope.names.lookup y = some .local := by rfl) (hs : ∀ x, foldedSetIterable iter X.env x = pure x := by intro _; rfl) :
    JS X W (.Assign [.Name y py] (.DictComp kx vx [⟨tg, iter, ifs, 0⟩] scope pos) spos) (wAsg (wDc w wg wt wk wv (own.map (·.2))) (wgName i)) := by
  obtain ⟨_, pi, si⟩ := hi
  refine ⟨_, ps_setDc (tt := upT X.K WF wt) (tk := upE X.K WF wk) (tv := upE X.K WF wv) hc hN hu hy hyl hsw pi ok hg (fun s H C cl fp => (ht s H C cl fp).up) (fun s H C cl fp => (hk s H C cl fp).up) (fun s H C cl fp => (hv s H C cl fp).up) hs, fun s μ env σ D E r en h l => ?_⟩
  refine sn_dc si sg og s μ env σ _ _ r en h (l.thr en) _ fun s1 v t μ1 e1 r1 t1 h1 => ?_
  exact l.nx s1 μ1 _ _ e1 r1 (EnR.set t1 i (en.up e1)) h1
end
end DL
/-! DL48: defs with defaults. -/
namespace DL
open PySem PySem.Spec L2
open PyProof.Rows hiding St
/-- the promise over the written arguments, ds filling up -/
def apD (ds : List PyData) (dsp : DSp) : DSp := fun ts μ P PX => dsp (ts ++ ds.map T.dat) μ P PX
section
variable {P : Program} {w : World} {K : PySem.W.Frag} {mg : Str → Option Value} {base : Heap}
/-- a def with defaults keeps its promise -/
theorem FnD.okV {x qual : Str} {st : Stmt} {dvs : List V} {f : Addr} {fd : FuncData} {N ps : List Str} {k : Nat} {dsp : DSp} {ws : WpS} (F : FunD K x qual (defArgs st) (defBody st) (defScope st) dvs [] f fd) (S : FnScope N ps (defScope st))
    (len : ∀ ts μ PT PX, dsp ts μ PT PX → ts.length = ps.length)
    (hbody : ∀ (cdv : Value) (A : Around) (outer : List Env) (s : Shared) (H : Hp) (E : XK), Room k (A.deeper (envOfC qual (defScope st) s.heap.objs.size f cdv)) → (A.deeper (envOfC qual (defScope st) s.heap.objs.size f cdv)).guards = some [] →
      JB (cxOf (L2.CX P w) P w K mg base N qual (defScope st) f cdv A outer s H E) (fun c d _ H => E c d H) (defBody st) ws)
    (hw : ∀ ts μ PT PX, dsp ts μ PT PX → ws { nx := fun _ μ' => endV μ.length PT (.dat .none) μ', rt := endV μ.length PT, ex := fun C t _ μ' => endV μ.length (PX C) t μ' } (startE N.length ts) μ) :
    FnG P w K mg base (k + 1) f fd ps (toSp K dsp) := by
  obtain ⟨oc, od, dV, kV, doc, pm, an, cdv, ct, osl, rfl, lk, hcd, _, _⟩ := F.ex
  exact FnD.okA lk hcd S len (hbody cdv) hw
/-- a def that is called with its last arguments left out -/
structure DefV1 (P : Program) (w : World) (K : PySem.W.Frag) (mg : Str → Option Value) (base : Heap) (x : Str) (k : Nat) (ds : List PyData) (dsp : DSp) : Prop where
  ex : ∃ (f : Addr) (fd : FuncData) (ps : List Str) (dvs : List V) (us : List Value), FnG P w K mg base k f fd ps (toSp K dsp) ∧ mg x = some (.ref f) ∧ PySem.W.keepIn K (.ref f) = true ∧ (∀ s : S, TRs K s (ds.map T.dat) dvs) ∧ Vals dvs us ∧ Binds K fd ps us
theorem toSp_ap {ds : List PyData} {dvs vs : List V} {dsp : DSp} {H : Hp} {Q : VK} {E : XK} (hd : ∀ s : S, TRs K s (ds.map T.dat) dvs) (h : toSp K (apD ds dsp) vs H Q E) : toSp K dsp (vs ++ dvs) H Q E := by
  obtain ⟨s, ts, μ, PT, PX, e, r, tv, g, q, qx⟩ := h
  exact ⟨s, ts ++ ds.map T.dat, μ, PT, PX, e, r, tv.append (hd s), g, q, qx⟩
/-- whole numbers as defaults -/
theorem trs_dfl : ∀ (is : List Int) (s : S), TRs K s ((is.map PyData.int).map T.dat) (is.map V.int)
  | [], s => .nil
  | i :: is, s => .cons (.int i) (trs_dfl is s)
end
section
variable {X : Cx} {W : WX} {k k' : Nat} {dsp : DSp} {x : Str} {p pos : Pos} {e : Expr} {es : List Expr} {wa : WpA} {ds : List PyData}
theorem run_fnGV {E : St → XK} {f : Addr} {fd : FuncData} {ps : List Str} {sp : Sp} {pins : List (Addr × Obj)} {σ : St} {H : Hp} {s : Shared} {Q : VK} {us du : List Value} {vs dv : List V} (F : FnG X.prog X.w X.K X.mg X.base k f fd ps sp) (hr : Room k X.A) (hg : X.A.guards = some [])
    (hb : Binds X.K fd ps du) (hx : PassesAt (L2.CX X.prog X.w) X σ (E σ)) (I : Inv X pins σ H s) (r : Vals vs us) (rd : Vals dv du) (h : sp (vs ++ dv) H Q (E σ)) : wpAny (model X.prog X.w) X.A (call (.ref f) us) (EP X pins σ Q) X.xe s := by
  have rr := r.append rd
  have hl : (us ++ du).length = ps.length := by rw [← rr.length]; exact F.len _ _ _ _ h
  refine wpAny_call (codeAny_mono (F.run X.A X.stack s H ⟨us, []⟩ (us ++ du) (vs ++ dv) Q (E σ) hr hg I.env0 (hb s us I.kIn hl) rr h) fun r s' hq => ?_)
  cases r with
  | error e => exact hx pins H s e s' I hq
  | ok fl =>
    cases fl with
    | ret u => exact I.after hq
    | next => exact hq.elim
    | brk => exact hq.elim
    | cont => exact hq.elim
theorem je_defV (B : DefV1 X.prog X.w X.K X.mg X.base x k ds dsp) (hr : Room k' X.A) (hgd : X.A.guards = some []) (tk : Takes X W)
    (ha : JA X W (e :: es) wa) (hk : k ≤ k' := by decide) (hg : Gl X x := by rfl) (hdb : (x == ("__debug__" : Str)) = false := by decide) (he : starEach (e :: es) X.env = (false, eval e X.env) :: starEach es X.env := by rfl) (hpl : (backTo pos (starEach es X.env)).any (·.1) = false := by rfl) :
    JE X W (.Call (.Name x p) (e :: es) [] pos) (wCall (apD ds dsp) wa) := by
  obtain ⟨f, fd, ps, dvs, du, F, hm, kp, hd, rd, hb⟩ := B.ex
  obtain ⟨ta, pa, sa⟩ := ha
  refine ⟨tCallS (toSp X.K (apD ds dsp)) (L2.WE W) ta, ⟨fun pins s σ H Q I h => ?_⟩, fun s μ env σ PT PX r en hw th Q q => ?_⟩
  · refine wpAny_Call_Name_kw (ld_glob I hg hm ?_ hdb)
    refine PySem.W.callWith_K (h₀ := X.base) I.ok.mod.kin kp (thn (pa.run pos pins s σ H _ I h) fun us s1 ⟨vs, H1, I1, r, q⟩ => ⟨I1.kIn, ?_⟩) he hpl
    exact run_fnGV F (hr.mono hk) hgd hb (passAt tk σ) I1 r rd (toSp_ap hd q)
  · refine sa s μ env σ _ PX r en hw th _ fun s1 vs ts μ1 e1 r1 t1 h1 => ?_
    exact callD_ok r1 t1 h1 (th.up e1) fun s2 v t μ2 e2 r2 t2 h2 => q s2 v t μ2 (e1.trans e2) r2 t2 h2
end
end DL
/-! DL49: text.index(sign) where it stands, numbers.remove(k) where it stands. -/
namespace DL
open PySem PySem.Spec L2
open PyProof.Rows hiding St
abbrev CSix (a b : Str) : Prop := Txt.find a b ≠ -1
theorem m_sindex {K : PySem.W.Frag} : SnM K (fun x xs H Q => ∃ a b i rest, x = .str a ∧ xs = [.str b] ∧ Builtin.Str.occurrences a b 0 a.length 1 = i :: rest ∧ Q (.int (i : Nat)) H) (mS1 CSix gFind) :=
  m_S1 (gv := fun a b => .int (Txt.find a b)) (fun _ _ _ => .int _) fun a b H Q c q => by
    have c : Txt.find a b ≠ -1 := c
    have q : Q (.int (Txt.find a b)) H := q
    unfold Txt.find at c q
    cases e : Builtin.Str.occurrences a b 0 a.length 1 with
    | nil => rw [e] at c; exact absurd rfl c
    | cons i rest => rw [e] at q; exact ⟨a, b, i, rest, rfl, rfl, e, q⟩
def rRemove (x : V) (xs : List V) (H : Hp) (Q : VK) : Prop := ∃ (l : Addr) (ns : List Int) (k : Int), x = .ref l ∧ xs = [.int k] ∧ H l = some (.lst (ns.map V.int)) ∧ k ∈ ns ∧ Q .non (upd H l (.lst ((ns.erase k).map V.int)))
theorem mt_remove {X : Cx} : MtR X "list.remove" rRemove := by
  intro pins s σ H x xs v us Q I rx rxs h
  obtain ⟨l, ns, k, rfl, rfl, hH, hk, q⟩ := h
  cases (show v = Value.ref l from rx)
  obtain ⟨u, rfl, ru⟩ := rxs.one
  obtain ⟨t, rfl⟩ := (show ∃ t, u = Value.int k t from ru)
  obtain ⟨z, its, n, r, hl, e0⟩ := I.lstM hH
  have iA : IntsAre its ns := intsAre_of r
  have long : ns.length = its.length := by rw [← hl, List.length_map]
  obtain ⟨j, j1, j2, j3, j4⟩ := first_at hk
  have hj : j < its.length := by omega
  refine call_meets PySem.F.slot_list_remove ⟨_, e0, rfl⟩ PySem.F.entry_list_remove (PySem.F.args_list_remove_2 _ _)
    (MeetsSeq.list_remove l its.toArray n (.int k t) (isInt k) (fun y hy => eq_isInt k t iA y (by simpa using hy)) j (by rw [List.size_toArray]; exact hj) ?here (fun i hi2 lt => ?before) (by rw [List.size_toArray, ← hl]; exact z)) ⟨e0, ?_⟩
  case here => exact (L2.isInt_at k iA j hj).mpr j2
  case before =>
    have hi3 : i < its.length := by rw [List.size_toArray] at hi2; exact hi2
    show isInt k its[i] = false
    rw [Bool.eq_false_iff]
    exact fun w => j3 i lt ((L2.isInt_at k iA i hi3).mp w)
  have r2 := r.eraseIdx j
  rw [map_eraseIdx', j4] at r2
  refine ⟨.non, _, I.lset (its' := its.eraseIdx j) hH e0 (by rw [List.eraseIdxIfInBounds_toArray]) r2 ?_, rfl, q⟩
  rw [List.length_map]
  have := List.length_erase_le (a := k) (l := ns)
  rw [List.length_map] at z
  omega
def mRemove : MD := fun x ts μ P => match ts with
  | [t] => match nm μ t with
    | .dat (.int k) => onL x μ fun n xs => ∃ ns : List Int, xs = ns.map (fun i => T.dat (.int i)) ∧ k ∈ ns ∧ P (.dat .none) (μ.set n (.lst ((ns.erase k).map fun i => T.dat (.int i))))
    | _ => False
  | _ => False
theorem trs_int {K : PySem.W.Frag} {s : S} : ∀ {ns : List Int} {ys : List V}, TRs K s (ns.map fun i => T.dat (.int i)) ys → ys = ns.map V.int
  | [], _, .nil => rfl
  | i :: ns, _, .cons h t => by
    rw [trs_int t]
    have e := tr_int h
    rw [e] <;> rfl
theorem int_trs {K : PySem.W.Frag} {s : S} : ∀ ns : List Int, TRs K s (ns.map fun i => T.dat (.int i)) (ns.map V.int)
  | [] => .nil
  | n :: ns => .cons (.int n) (int_trs ns)
theorem m_remove {K : PySem.W.Frag} : SnM K rRemove mRemove := fun s μ x ts v vs P r hx ht hm Q q => by
  unfold mRemove at hm
  split at hm
  · rename_i y
    obtain ⟨w, rfl, hw⟩ := trs1 ht
    have hw' := nm_ok r hw
    split at hm
    · rename_i k ek
      rw [ek] at hw'
      have ew := tr_int hw'
      obtain ⟨n, xs, a, ys, rfl, ex, hi, rfl, hg, hh, tl, ns, rfl, hk, hp⟩ := onL_ok r hx hm
      obtain ⟨r2, e2⟩ := lst_put r hi hg (int_trs (K := K) (s := s) (ns.erase k))
      refine ⟨a, ns, k, rfl, by rw [ew], by rw [hh, trs_int tl], hk, q _ .non _ _ e2 r2 mk_none hp⟩
    · exact hm.elim
  · exact hm.elim
/-! ### {k: v}, the key a tuple -/
def tDispT (tk tv : TE) : TE := fun σ H Q => ∀ p, H p = none → tk σ (upd H p (.dT [])) fun y H1 => tv σ H1 fun z H2 => H2 p = some (.dT []) ∧ ∃ (ks : List Key) (b : Addr), y = .ref b ∧ H2 b = some (.tup (ks.map kV)) ∧ Q (.ref p) (upd H2 p (.dT [(ks, z)]))
theorem pe_dispT {X : Cx} {k v : Expr} {pos : Pos} {tk tv : TE} (hu : X.A.units < cLine) (hk : PE X k tk) (hv : PE X v tv) : PE X (.Dict [some k] [v] pos) (tDispT tk tv) := by
  refine ⟨fun pins s σ H Q I q => ?_⟩
  have hn := I.hok.fresh (Nat.le_refl s.heap.objs.size)
  have I1 := I.laid (a := s.heap.objs.size) (o := .dT []) (h' := s.heap.push { cls := .type "dict", data := .dict #[] }) (t' := s.toks) (fun _ _ q => Heap.get?_push_of_some _ q) (Nat.le_refl _) (dt_empty s.heap I.big)
  have one : (pairTrees [some k] [v] X.env pos).length = 1 := pairTrees_length _ _ _ _ rfl rfl
  rw [arm_eval_Dict, zip_pairTrees [some k] [v] X.env pos rfl rfl, dictDisplay_pairs (pairTrees [some k] [v] X.env pos) (fun z => by rw [z] at one; cases one) (by rw [one]; decide)]
  refine wpAny_bind (wpAny_standAt (wpAny_bind (wpAny_subDictH (knd := tupleKind (mixKind X.prog X.w)) (Q := fun d s' => wpAny (model X.prog X.w) X.A (pure (Value.ref d)) _ _ s') hu (by rw [one]; decide) ?_)))
  refine pairTrees_cons_walk (thn (hk.run pins _ σ _ _ I1 (q _ hn)) fun kv s1 ⟨y, H1, I1', ry, q1⟩ => thn (hv.run pins s1 σ H1 _ I1' q1) fun vv s2 ⟨z, H2, I2, rz, e, ks, b, ey, eb, q2⟩ => pairTrees_nil_walk ?_)
  subst ey
  obtain rfl : kv = Value.ref b := ry
  obtain ⟨z0, hd, vs0, r0, dd⟩ := dt_of I2.hok e
  cases r0
  refine ⟨[(ks, b, vv)], ⟨rfl, rfl, key_of I2.hok eb, trivial⟩, dd, fun h' tk dd' hs => wpAny_pure ⟨.ref s.heap.objs.size, _, ?_, rfl, q2⟩⟩
  obtain ⟨o, es, ep, ho, x2, x3, x4, _, x5⟩ := dd'
  refine d_write I2 (by rw [e]; exact True.intro) hs ⟨o, ho⟩ ⟨by show 1 ≤ sizeLine; decide, hd, [(ks, b, vv)], .cons ⟨rfl, ?_, rz⟩ .nil, o, es, ep, ho, x2, x3, x4, x5⟩
  exact (upd_ne (ne_of eb e (fun z => nomatch z))).trans eb
def wDispT (wk wv : WpE) : WpE := fun env μ P PX => wk env (μ ++ [.dt []]) (fun x μ1 => wv env μ1 (fun y μ2 => ∃ (ds : List PyData) (k : List Key), nm μ2 x = .dat (.tuple ds) ∧ toKeys ds = some k ∧ μ2[μ.length]? = some (.dt []) ∧ P (.loc μ.length) (μ2.set μ.length (.dt [(k, y)]))) PX) PX
theorem je_dispT {X : Cx} {W : WX} {k v : Expr} {pos : Pos} {wk wv : WpE} (hu : X.A.units < cLine) (hk : JE X W k wk) (hv : JE X W v wv) : JE X W (.Dict [some k] [v] pos) (wDispT wk wv) := by
  obtain ⟨_, pk, sk⟩ := hk
  obtain ⟨_, pv, sv⟩ := hv
  refine ⟨_, pe_dispT hu pk pv, fun s μ env σ P PX r en hw th Q q => ?_⟩
  intro p fr
  obtain ⟨s', eH, e1, r1, t1⟩ := new_dk (o := .dt []) r fr nk_dT fun s' _ g h => ⟨g, [], h, .nil⟩
  rw [← eH]
  refine sk s' _ env σ _ PX r1 (en.up e1) hw (th.up e1) _ fun s2 x tx μ2 e2 r2 x2 h2 => ?_
  refine sv s2 μ2 env σ _ PX r2 ((en.up e1).up e2) h2 (th.up (e1.trans e2)) _ fun s3 y ty μ3 e3 r3 y3 h3 => ?_
  obtain ⟨ds, kk, ed, ek, h0, h3⟩ := h3
  have t3 := t1.up (e2.trans e3)
  obtain ⟨a, ia, ea⟩ := t3
  cases ea
  obtain ⟨hg, ws, hh, pr⟩ := r3.ob _ p _ ia h0
  cases pr
  have xk := nm_ok r3 (x2.up e3)
  rw [ed] at xk
  cases xk with
  | @tup b xs _ hb hd =>
    have := keys_dp hd ek
    subst this
    refine ⟨hh, kk, b, rfl, r3.sub _ _ hb, ?_⟩
    have es : Ext s3 ⟨s3.ι, s3.G, upd s3.H p (.dT [(kk, y)])⟩ := (Rel.put (o := .gone) r3 ia hg trivial nk_dT).2
    obtain ⟨r4, e4⟩ := Rel.put (o := .dt [(kk, ty)]) (ho := .dT [(kk, y)]) r3 ia hg ⟨hg, _, upd_same, KRs.up es (.cons ⟨rfl, y3⟩ .nil)⟩ nk_dT
    exact q _ _ _ _ (((e1.trans e2).trans e3).trans e4) r4 ((t1.up (e2.trans e3)).up e4) h3
end DL
/-! DL50: sorted(text). -/
namespace L2
open PySem PySem.Spec PyProof.Rows
section
variable {X : Cx}
def sg1 (c : Nat) : Str := ⟨#[c]⟩
def rSortedTx : List V → Hp → VK → Prop := fun xs H Q => ∃ z : Str, xs = [.str z] ∧ z.cps.size < 64 ∧ ∀ (ys : List Str) (p : Addr), ys.Perm (z.cps.toList.map sg1) → sortedS ys = true → H p = none → Q (.ref p) (upd H p (.lst (ys.map V.str)))
theorem cr_sortedTx (calm : X.calm = true) : CallR X (.builtin "sorted") rSortedTx := by
  intro pins s σ H xs us Q I r h
  obtain ⟨z, rfl, few, q⟩ := h
  obtain ⟨u, rfl, t, rfl⟩ := vals1 r
  refine Calls.call_function_entry PyProof.Rows.kind_sorted PyProof.Rows.plain_sorted PyProof.Rows.entry_sorted (PyProof.Rows.args_sorted1 _) ?_
  unfold Builtin.«sorted»
  refine wpAny_bind (m := checkCount "sorted" 1 1 _) (wpAny_pure ?_)
  refine wpAny_bind (wpAny_collect_str (A := X.A.in1) (I.ok.hd calm) z t (fun s1 acc k1 g1 d1 o1 ac => ?_) (by rw [sizeLine_eq]; omega))
  have la : acc.toList.length = (z.cps.toList.map sg1).length := by rw [Array.length_toList, ac.1, List.length_map, Array.length_toList]
  have S : StrsAre acc.toList (z.cps.toList.map sg1) := strs_at la fun j v e => by
    obtain ⟨c, t2, e1, e2⟩ := ac.2 j v (by rw [← Array.getElem?_toList]; exact e)
    exact ⟨sg1 c, t2, by rw [List.getElem?_map, Array.getElem?_toList, e1]; rfl, e2⟩
  have e1 : s1 = { s with heap := s1.heap, toks := s1.toks } := by
    cases s1
    cases s
    simp_all
  rw [e1]
  generalize s1.heap = h1 at k1 ⊢
  generalize s1.toks = n1
  have I1 : Inv X pins σ H { s with heap := h1, toks := n1 } := I.kept k1
  have l1 : acc.toList.length < 64 := by rw [la, List.length_map, Array.length_toList]; exact few
  refine wpAny_bind (wpAny_newList ?_ (by rw [sizeLine_eq]; omega))
  have here : (h1.push (seqObj "list" acc.toList.toArray 0)).get? h1.objs.size = some (seqObj "list" acc.toList.toArray 0) := Heap.get?_push_size _ rfl
  show wpAny _ _ _ _ _ { s with heap := h1.push (seqObj "list" acc.toList.toArray 0), toks := n1 }
  refine wpAny_bind (wpAny_holding (wpAny_call_entry PyProof.Rows.slot_list_sort ⟨_, here, rfl⟩ PyProof.Rows.entry_list_sort
    (list_sort_treeK strKind_oneLt (s := { s with heap := h1.push (seqObj "list" acc.toList.toArray 0), toks := n1 }) here S.keysOf (fun v₁ v₂ rest e => keyKind_strs (by rw [← e]; exact S)) l1 fun st' hp hs => ⟨_, rfl, ?_⟩)
    (PyProof.Rows.args_list_sort _)))
  obtain ⟨ys, g2, g3, g4⟩ := sorted_out_str S hp hs
  obtain ⟨e', he'⟩ := PyProof.Rows.sortedHeap_at (vs := acc.toList) (out := (arrOf st').map (·.2)) here
  refine wpAny_pure ⟨_, rfl, .ref h1.objs.size, upd H h1.objs.size (.lst (ys.map V.str)), I1.laid (t' := n1) (fun b u e => ?_) (Nat.le_refl _)
    (show ObjOk X.prog X.w _ _ _ (.lst (ys.map V.str)) from ⟨?_, ((arrOf st').map (·.2)).toList, e', vals_of_strs g2, by rw [Array.toArray_toList]; exact he'⟩), rfl, q ys _ g3 g4 (I1.hok.fresh (Nat.le_refl _))⟩
  · have lt : b < h1.objs.size := Heap.lt_size e
    rw [PyProof.Rows.sortedHeap_old (Nat.ne_of_lt lt) (by rw [size_push']; exact Nat.lt_succ_of_lt lt)]
    exact Heap.get?_push_of_some _ e
  · rw [List.length_map, g3.length_eq, ← la, sizeLine_eq]
    omega
end
end L2
namespace DL
open PySem PySem.Spec L2
section
variable {K : PySem.W.Frag}
def cSortedTx : CD := fun ts μ P => match ts with
  | [t] => match nm μ t with
    | .dat (.str z) => z.cps.size < 64 ∧ ∀ ys : List Str, ys.Perm (z.cps.toList.map sg1) → PyProof.Rows.sortedS ys = true → P (.loc μ.length) (μ ++ [.lst (ys.map fun y => .dat (.str y))])
    | _ => False
  | _ => False
theorem c_sortedTx : SnC K rSortedTx cSortedTx := fun s μ ts vs P rl h c Q q => by
  unfold cSortedTx at c
  split at c
  · rename_i t
    obtain ⟨v, rfl, tv⟩ := trs1 h
    have h2 := nm_ok rl tv
    split at c
    · rename_i z e
      rw [e] at h2
      cases h2
      refine ⟨z, rfl, c.1, fun ys p pm so fr => ?_⟩
      have m : mkL (ys.map fun y => T.dat (.str y)) μ P := c.2 ys pm so
      exact mkL_ok rl (trs_strs ys) m q fr
    · exact c.elim
  · exact c.elim
end
end DL
namespace DL.K18
open PySem PySem.Spec L2
open He (ga ma)
def top (i : Nat) : Stmt := PySem.Challenge.pw_splicedfilms_k18_the_first_text_apart.main.body.getD i (.Pass ⟨0, 0, 0, 0⟩)
abbrev s_first_text : Stmt := (top 5)
abbrev N_first_text : List Str := ["nodes", "steps", "pictures", "is_goal", "seen", "node", "groups", "text", "some", "later", "picture", "fresh", "goal"]
theorem sc_first_text : FnScope N_first_text ["nodes", "steps", "pictures", "is_goal"] (defScope s_first_text) := ⟨rfl, rfl, rfl, by decide +kernel, rfl, by decide +kernel, by decide +kernel⟩
abbrev s_is_rising : Stmt := (top 8)
abbrev N_is_rising : List Str := ["numbers", "many", "is_right", "number", "left", "right"]
theorem sc_is_rising : FnScope N_is_rising ["numbers", "many"] (defScope s_is_rising) := ⟨rfl, rfl, rfl, by decide +kernel, rfl, by decide +kernel, by decide +kernel⟩
abbrev s_check_table : Stmt := (top 9)
abbrev N_check_table : List Str := ["told", "pictures", "rows", "ends", "signs", "is_right", "row", "sign", "goal"]
theorem sc_check_table : FnScope N_check_table ["told"] (defScope s_check_table) := ⟨rfl, rfl, rfl, by decide +kernel, rfl, by decide +kernel, by decide +kernel⟩
abbrev s_next_state : Stmt := (top 10)
abbrev N_next_state : List Str := ["told", "state", "picture", "at"]
theorem sc_next_state : FnScope N_next_state ["told", "state", "picture"] (defScope s_next_state) := ⟨rfl, rfl, rfl, by decide +kernel, rfl, by decide +kernel, by decide +kernel⟩
abbrev s_first_apart : Stmt := (top 11)
abbrev N_first_apart : List Str := ["one", "other", "steps", "is_goal"]
theorem sc_first_apart : FnScope N_first_apart ["one", "other"] (defScope s_first_apart) := ⟨rfl, rfl, rfl, by decide +kernel, rfl, by decide +kernel, by decide +kernel⟩
abbrev n_first_apart_steps : Stmt := (defBody s_first_apart).getD 0 (.Pass ⟨0, 0, 0, 0⟩)
abbrev N_first_apart_steps : List Str := ["node", "picture", "one", "other", "goal"]
theorem nn_first_apart_steps : nmOf "first_apart" (defBody s_first_apart) 50 4 = "first_apart.<locals>." ++ "steps" := by decide +kernel
theorem nb_first_apart_steps : NdefX.ndefB (defScope s_first_apart) (C8.fnScope n_first_apart_steps) ["one", "other"] = true := by decide +kernel
theorem sc_first_apart_steps : NdefX.NScope N_first_apart_steps ["node", "picture"] ["one", "other"] (C8.fnScope n_first_apart_steps) := NdefX.nscope_by (by decide +kernel)
abbrev n_first_apart_is_goal : Stmt := (defBody s_first_apart).getD 1 (.Pass ⟨0, 0, 0, 0⟩)
abbrev N_first_apart_is_goal : List Str := ["node", "one", "other"]
theorem nn_first_apart_is_goal : nmOf "first_apart" (defBody s_first_apart) 54 4 = "first_apart.<locals>." ++ "is_goal" := by decide +kernel
theorem nb_first_apart_is_goal : NdefX.ndefB (defScope s_first_apart) (C8.fnScope n_first_apart_is_goal) ["one", "other"] = true := by decide +kernel
theorem sc_first_apart_is_goal : NdefX.NScope N_first_apart_is_goal ["node"] ["one", "other"] (C8.fnScope n_first_apart_is_goal) := NdefX.nscope_by (by decide +kernel)
abbrev s_apart : Stmt := (top 12)
abbrev N_apart : List Str := ["one", "other"]
theorem sc_apart : FnScope N_apart ["one", "other"] (defScope s_apart) := ⟨rfl, rfl, rfl, by decide +kernel, rfl, by decide +kernel, by decide +kernel⟩
abbrev s__law_purse : Stmt := (top 14)
abbrev N__law_purse : List Str := ["script", "place", "cell"]
theorem sc__law_purse : FnScope N__law_purse ["script", "place"] (defScope s__law_purse) := ⟨rfl, rfl, rfl, by decide +kernel, rfl, by decide +kernel, by decide +kernel⟩
abbrev s__law_coin : Stmt := (top 15)
abbrev N__law_coin : List Str := ["purse", "many", "stirred", "drawn"]
theorem sc__law_coin : FnScope N__law_coin ["purse", "many"] (defScope s__law_coin) := ⟨rfl, rfl, rfl, by decide +kernel, rfl, by decide +kernel, by decide +kernel⟩
abbrev s__law_qt_letters : Stmt := (top 16)
abbrev N__law_qt_letters : List Str := ["sack", "amount", "at", "found", "turn"]
theorem sc__law_qt_letters : FnScope N__law_qt_letters ["sack", "amount"] (defScope s__law_qt_letters) := ⟨rfl, rfl, rfl, by decide +kernel, rfl, by decide +kernel, by decide +kernel⟩
abbrev s__law_qt_copy : Stmt := (top 17)
abbrev N__law_qt_copy : List Str := ["sheet", "row"]
theorem sc__law_qt_copy : FnScope N__law_qt_copy ["sheet"] (defScope s__law_qt_copy) := ⟨rfl, rfl, rfl, by decide +kernel, rfl, by decide +kernel, by decide +kernel⟩
abbrev s__law_qt_sheet : Stmt := (top 18)
abbrev N__law_qt_sheet : List Str := ["sack", "letters", "high", "amount", "rows", "turn", "share", "ends", "k", "sign"]
theorem sc__law_qt_sheet : FnScope N__law_qt_sheet ["sack", "letters", "high"] (defScope s__law_qt_sheet) := ⟨rfl, rfl, rfl, by decide +kernel, rfl, by decide +kernel, by decide +kernel⟩
abbrev s__law_qt_renumbered : Stmt := (top 19)
abbrev N__law_qt_renumbered : List Str := ["sack", "sheet", "extra", "letters", "rows", "ends", "names", "k", "turn", "found", "name", "row", "goal", "spots"]
theorem sc__law_qt_renumbered : FnScope N__law_qt_renumbered ["sack", "sheet", "extra"] (defScope s__law_qt_renumbered) := ⟨rfl, rfl, rfl, by decide +kernel, rfl, by decide +kernel, by decide +kernel⟩
abbrev s__law_qt_next : Stmt := (top 20)
abbrev N__law_qt_next : List Str := ["sheet", "state", "sign", "at"]
theorem sc__law_qt_next : FnScope N__law_qt_next ["sheet", "state", "sign"] (defScope s__law_qt_next) := ⟨rfl, rfl, rfl, by decide +kernel, rfl, by decide +kernel, by decide +kernel⟩
abbrev s__law_qt_bent : Stmt := (top 21)
abbrev N__law_qt_bent : List Str := ["sack", "sheet", "letters", "rows", "ends", "way", "at", "k"]
theorem sc__law_qt_bent : FnScope N__law_qt_bent ["sack", "sheet"] (defScope s__law_qt_bent) := ⟨rfl, rfl, rfl, by decide +kernel, rfl, by decide +kernel, by decide +kernel⟩
abbrev s__law_qt_first : Stmt := (top 22)
abbrev N__law_qt_first : List Str := ["sheet", "other_sheet", "is_more", "left", "right", "letters", "pairs", "words", "seen", "k", "is_in", "sign", "goal"]
theorem sc__law_qt_first : FnScope N__law_qt_first ["sheet", "other_sheet", "is_more", "left", "right"] (defScope s__law_qt_first) := ⟨rfl, rfl, rfl, by decide +kernel, rfl, by decide +kernel, by decide +kernel⟩
abbrev s__law_qt_widened : Stmt := (top 24)
abbrev N__law_qt_widened : List Str := ["sheet", "sign", "letters", "at", "gone", "rows", "row", "one_sign"]
theorem sc__law_qt_widened : FnScope N__law_qt_widened ["sheet", "sign"] (defScope s__law_qt_widened) := ⟨rfl, rfl, rfl, by decide +kernel, rfl, by decide +kernel, by decide +kernel⟩
abbrev s__law_qt_rival : Stmt := (top 23)
abbrev N__law_qt_rival : List Str := ["sack", "sheet", "letters", "high", "way", "more", "some", "sign"]
theorem sc__law_qt_rival : FnScope N__law_qt_rival ["sack", "sheet", "letters", "high"] (defScope s__law_qt_rival) := ⟨rfl, rfl, rfl, by decide +kernel, rfl, by decide +kernel, by decide +kernel⟩
abbrev s__law_right : Stmt := (top 25)
abbrev N__law_right : List Str := ["sack", "letters", "high", "some", "sheet", "rival", "due", "left", "right", "same", "turn", "changed", "at", "sign"]
theorem sc__law_right : FnScope N__law_right ["sack"] (defScope s__law_right) := ⟨rfl, rfl, rfl, by decide +kernel, rfl, by decide +kernel, by decide +kernel⟩
abbrev s_law : Stmt := (top 26)
abbrev N_law : List Str := ["script", "spot", "sack"]
theorem sc_law : FnScope N_law ["script"] (defScope s_law) := ⟨rfl, rfl, rfl, by decide +kernel, rfl, by decide +kernel, by decide +kernel⟩
abbrev sErr : Stmt := (inClass (top 1) 0)
abbrev fI (K : PySem.W.Frag) : Addr := ma K (ga K "FilmError") "__init__"
def cE (K : PySem.W.Frag) : Nat → Addr
  | 0 => ga K "FilmError"
  | 6 => ga K "InvalidTable"
  | _ => 0
def eIx : List Nat := [0, 6]
def eJx : List Nat := [6]
def hit (K : PySem.W.Frag) (C : Addr) : Option Bool := if C ∈ eIx.map (cE K) then some true else none
def kitsB (K : PySem.W.Frag) : Bool := eIx.all fun i => eJx.all fun j => decide (PySem.W.kitOne K (.ref (cE K i)) (.ref (cE K j)) = some (decide (i = j)))
def exmsB (K : PySem.W.Frag) : Bool := eIx.all fun i => decide (PySem.W.exmOne K (.ref (cE K i)) (.ref (cE K 0)) = some true)
theorem kits_of {K : PySem.W.Frag} (h : kitsB K = true) : ∀ i j, i ∈ eIx → j ∈ eJx → PySem.W.kitOne K (.ref (cE K i)) (.ref (cE K j)) = some (decide (i = j)) := fun i j hi hj => of_decide_eq_true (List.all_eq_true.mp (List.all_eq_true.mp h i hi) j hj)
theorem exms_of {K : PySem.W.Frag} (h : exmsB K = true) : ∀ i, i ∈ eIx → PySem.W.exmOne K (.ref (cE K i)) (.ref (cE K 0)) = some true := fun i hi => of_decide_eq_true (List.all_eq_true.mp h i hi)
structure Tx (K : PySem.W.Frag) (mg : Str → Option Value) : Prop where
  g_GONE : ∃ tk, mg "GONE" = some (.int (-1) tk)
  g_PICTURES : ∃ tk, mg "PICTURES" = some (.str "abcdefghijklmnopqrstuvwxyz" tk)
  b_abs : mg "abs" = none
  b_all : mg "all" = none
  b_any : mg "any" = none
  b_int : mg "int" = none
  b_len : mg "len" = none
  b_list : mg "list" = none
  b_max : mg "max" = none
  b_min : mg "min" = none
  b_range : mg "range" = none
  b_repr : mg "repr" = none
  b_set : mg "set" = none
  b_sorted : mg "sorted" = none
  b_zip : mg "zip" = none
  tb_first_apart : tbB "first_apart" K = true
  m___builtins__ : mg "__builtins__" = some (.ref (ga K "__builtins__"))
  m_first_text : mg "first_text" = some (.ref (ga K "first_text"))
  m_is_rising : mg "is_rising" = some (.ref (ga K "is_rising"))
  m_check_table : mg "check_table" = some (.ref (ga K "check_table"))
  m_next_state : mg "next_state" = some (.ref (ga K "next_state"))
  m_first_apart : mg "first_apart" = some (.ref (ga K "first_apart"))
  m_apart : mg "apart" = some (.ref (ga K "apart"))
  m__law_purse : mg "_law_purse" = some (.ref (ga K "_law_purse"))
  m__law_coin : mg "_law_coin" = some (.ref (ga K "_law_coin"))
  m__law_qt_letters : mg "_law_qt_letters" = some (.ref (ga K "_law_qt_letters"))
  m__law_qt_copy : mg "_law_qt_copy" = some (.ref (ga K "_law_qt_copy"))
  m__law_qt_sheet : mg "_law_qt_sheet" = some (.ref (ga K "_law_qt_sheet"))
  m__law_qt_renumbered : mg "_law_qt_renumbered" = some (.ref (ga K "_law_qt_renumbered"))
  m__law_qt_next : mg "_law_qt_next" = some (.ref (ga K "_law_qt_next"))
  m__law_qt_bent : mg "_law_qt_bent" = some (.ref (ga K "_law_qt_bent"))
  m__law_qt_first : mg "_law_qt_first" = some (.ref (ga K "_law_qt_first"))
  m__law_qt_widened : mg "_law_qt_widened" = some (.ref (ga K "_law_qt_widened"))
  m__law_qt_rival : mg "_law_qt_rival" = some (.ref (ga K "_law_qt_rival"))
  m__law_right : mg "_law_right" = some (.ref (ga K "_law_right"))
  m_law : mg "law" = some (.ref (ga K "law"))
  m_FilmError : mg "FilmError" = some (.ref (ga K "FilmError"))
  e_FilmError : ErrC K (ga K "FilmError") (fI K)
  m_InvalidTable : mg "InvalidTable" = some (.ref (ga K "InvalidTable"))
  e_InvalidTable : ErrC K (ga K "InvalidTable") (fI K)
  b_ValueError : mg "ValueError" = none
  vei : PySem.W.findCls K (.type "ValueError") (.type "type") "__init__" = some (.val (.builtin "ValueError.__init__"))
  kits : ∀ i j, i ∈ eIx → j ∈ eJx → PySem.W.kitOne K (.ref (cE K i)) (.ref (cE K j)) = some (decide (i = j))
  exms : ∀ i, i ∈ eIx → PySem.W.exmOne K (.ref (cE K i)) (.ref (cE K 0)) = some true
  f_first_text : ∃ fd, Fun K "first_text" "first_text" s_first_text (ga K "first_text") fd
  f_is_rising : ∃ fd, Fun K "is_rising" "is_rising" s_is_rising (ga K "is_rising") fd
  f_check_table : ∃ fd, Fun K "check_table" "check_table" s_check_table (ga K "check_table") fd
  f_next_state : ∃ fd, Fun K "next_state" "next_state" s_next_state (ga K "next_state") fd
  f_first_apart : ∃ fd, Fun K "first_apart" "first_apart" s_first_apart (ga K "first_apart") fd
  f_apart : ∃ fd, Fun K "apart" "apart" s_apart (ga K "apart") fd
  f__law_purse : ∃ fd, Fun K "_law_purse" "_law_purse" s__law_purse (ga K "_law_purse") fd
  f__law_coin : ∃ fd, Fun K "_law_coin" "_law_coin" s__law_coin (ga K "_law_coin") fd
  f__law_qt_letters : ∃ fd, Fun K "_law_qt_letters" "_law_qt_letters" s__law_qt_letters (ga K "_law_qt_letters") fd
  f__law_qt_copy : ∃ fd, Fun K "_law_qt_copy" "_law_qt_copy" s__law_qt_copy (ga K "_law_qt_copy") fd
  f__law_qt_sheet : ∃ fd, Fun K "_law_qt_sheet" "_law_qt_sheet" s__law_qt_sheet (ga K "_law_qt_sheet") fd
  f__law_qt_renumbered : ∃ fd, Fun K "_law_qt_renumbered" "_law_qt_renumbered" s__law_qt_renumbered (ga K "_law_qt_renumbered") fd
  f__law_qt_next : ∃ fd, Fun K "_law_qt_next" "_law_qt_next" s__law_qt_next (ga K "_law_qt_next") fd
  f__law_qt_bent : ∃ fd, Fun K "_law_qt_bent" "_law_qt_bent" s__law_qt_bent (ga K "_law_qt_bent") fd
  f__law_qt_first : ∃ fd, FunD K "_law_qt_first" "_law_qt_first" (defArgs s__law_qt_first) (defBody s__law_qt_first) (defScope s__law_qt_first) [.int (0), .int (0)] [] (ga K "_law_qt_first") fd
  f__law_qt_widened : ∃ fd, Fun K "_law_qt_widened" "_law_qt_widened" s__law_qt_widened (ga K "_law_qt_widened") fd
  f__law_qt_rival : ∃ fd, Fun K "_law_qt_rival" "_law_qt_rival" s__law_qt_rival (ga K "_law_qt_rival") fd
  f__law_right : ∃ fd, Fun K "_law_right" "_law_right" s__law_right (ga K "_law_right") fd
  f_law : ∃ fd, Fun K "law" "law" s_law (ga K "law") fd
  f_FilmError___init__ : ∃ fd, Fun K "__init__" "FilmError.__init__" sErr (fI K) fd
def fa : List (PySem.W.Frag → Bool) := [(fun K => (He.Fa.int "GONE" (-1)).ok K),
  (fun K => (He.Fa.str "PICTURES" "abcdefghijklmnopqrstuvwxyz").ok K),
  (fun K => (He.Fa.free "abs").ok K),
  (fun K => (He.Fa.free "all").ok K),
  (fun K => (He.Fa.free "any").ok K),
  (fun K => (He.Fa.free "int").ok K),
  (fun K => (He.Fa.free "len").ok K),
  (fun K => (He.Fa.free "list").ok K),
  (fun K => (He.Fa.free "max").ok K),
  (fun K => (He.Fa.free "min").ok K),
  (fun K => (He.Fa.free "range").ok K),
  (fun K => (He.Fa.free "repr").ok K),
  (fun K => (He.Fa.free "set").ok K),
  (fun K => (He.Fa.free "sorted").ok K),
  (fun K => (He.Fa.free "zip").ok K),
  (tbB "first_apart"),
  (fun K => (He.Fa.glo "__builtins__").ok K),
  (fun K => (He.Fa.glo "first_text").ok K),
  (fun K => (He.Fa.glo "is_rising").ok K),
  (fun K => (He.Fa.glo "check_table").ok K),
  (fun K => (He.Fa.glo "next_state").ok K),
  (fun K => (He.Fa.glo "first_apart").ok K),
  (fun K => (He.Fa.glo "apart").ok K),
  (fun K => (He.Fa.glo "_law_purse").ok K),
  (fun K => (He.Fa.glo "_law_coin").ok K),
  (fun K => (He.Fa.glo "_law_qt_letters").ok K),
  (fun K => (He.Fa.glo "_law_qt_copy").ok K),
  (fun K => (He.Fa.glo "_law_qt_sheet").ok K),
  (fun K => (He.Fa.glo "_law_qt_renumbered").ok K),
  (fun K => (He.Fa.glo "_law_qt_next").ok K),
  (fun K => (He.Fa.glo "_law_qt_bent").ok K),
  (fun K => (He.Fa.glo "_law_qt_first").ok K),
  (fun K => (He.Fa.glo "_law_qt_widened").ok K),
  (fun K => (He.Fa.glo "_law_qt_rival").ok K),
  (fun K => (He.Fa.glo "_law_right").ok K),
  (fun K => (He.Fa.glo "law").ok K),
  (fun K => (He.Fa.glo "FilmError").ok K),
  (fun K => errB "FilmError" K && decide (ma K (ga K "FilmError") "__init__" = fI K)),
  (fun K => (He.Fa.glo "InvalidTable").ok K),
  (fun K => errB "InvalidTable" K && decide (ma K (ga K "InvalidTable") "__init__" = fI K)),
  (fun K => (He.Fa.free "ValueError").ok K),
  veiB,
  kitsB,
  exmsB]
def fn : List Df := [⟨.glo "first_text", "first_text", "first_text", s_first_text, []⟩,
  ⟨.glo "is_rising", "is_rising", "is_rising", s_is_rising, []⟩,
  ⟨.glo "check_table", "check_table", "check_table", s_check_table, []⟩,
  ⟨.glo "next_state", "next_state", "next_state", s_next_state, []⟩,
  ⟨.glo "first_apart", "first_apart", "first_apart", s_first_apart, []⟩,
  ⟨.glo "apart", "apart", "apart", s_apart, []⟩,
  ⟨.glo "_law_purse", "_law_purse", "_law_purse", s__law_purse, []⟩,
  ⟨.glo "_law_coin", "_law_coin", "_law_coin", s__law_coin, []⟩,
  ⟨.glo "_law_qt_letters", "_law_qt_letters", "_law_qt_letters", s__law_qt_letters, []⟩,
  ⟨.glo "_law_qt_copy", "_law_qt_copy", "_law_qt_copy", s__law_qt_copy, []⟩,
  ⟨.glo "_law_qt_sheet", "_law_qt_sheet", "_law_qt_sheet", s__law_qt_sheet, []⟩,
  ⟨.glo "_law_qt_renumbered", "_law_qt_renumbered", "_law_qt_renumbered", s__law_qt_renumbered, []⟩,
  ⟨.glo "_law_qt_next", "_law_qt_next", "_law_qt_next", s__law_qt_next, []⟩,
  ⟨.glo "_law_qt_bent", "_law_qt_bent", "_law_qt_bent", s__law_qt_bent, []⟩,
  ⟨.glo "_law_qt_first", "_law_qt_first", "_law_qt_first", s__law_qt_first, [.int (0), .int (0)]⟩,
  ⟨.glo "_law_qt_widened", "_law_qt_widened", "_law_qt_widened", s__law_qt_widened, []⟩,
  ⟨.glo "_law_qt_rival", "_law_qt_rival", "_law_qt_rival", s__law_qt_rival, []⟩,
  ⟨.glo "_law_right", "_law_right", "_law_right", s__law_right, []⟩,
  ⟨.glo "law", "law", "law", s_law, []⟩,
  ⟨.met "FilmError" "__init__", "__init__", "FilmError.__init__", sErr, []⟩]
theorem tx_of {K : PySem.W.Frag} {h : Heap} {mg : Str → Option Value} (X : K.In h) (G : h.Ns mainGlobals mg) (c : SaysN fa fn K) : Tx K mg where
  g_GONE := He.int_ok X G (c.fact 0)
  g_PICTURES := He.str_ok X G (c.fact 1)
  b_abs := He.free_ok X G (c.fact 2)
  b_all := He.free_ok X G (c.fact 3)
  b_any := He.free_ok X G (c.fact 4)
  b_int := He.free_ok X G (c.fact 5)
  b_len := He.free_ok X G (c.fact 6)
  b_list := He.free_ok X G (c.fact 7)
  b_max := He.free_ok X G (c.fact 8)
  b_min := He.free_ok X G (c.fact 9)
  b_range := He.free_ok X G (c.fact 10)
  b_repr := He.free_ok X G (c.fact 11)
  b_set := He.free_ok X G (c.fact 12)
  b_sorted := He.free_ok X G (c.fact 13)
  b_zip := He.free_ok X G (c.fact 14)
  tb_first_apart := (c.fact 15)
  m___builtins__ := He.glo_ok X G (c.fact 16)
  m_first_text := He.glo_ok X G (c.fact 17)
  m_is_rising := He.glo_ok X G (c.fact 18)
  m_check_table := He.glo_ok X G (c.fact 19)
  m_next_state := He.glo_ok X G (c.fact 20)
  m_first_apart := He.glo_ok X G (c.fact 21)
  m_apart := He.glo_ok X G (c.fact 22)
  m__law_purse := He.glo_ok X G (c.fact 23)
  m__law_coin := He.glo_ok X G (c.fact 24)
  m__law_qt_letters := He.glo_ok X G (c.fact 25)
  m__law_qt_copy := He.glo_ok X G (c.fact 26)
  m__law_qt_sheet := He.glo_ok X G (c.fact 27)
  m__law_qt_renumbered := He.glo_ok X G (c.fact 28)
  m__law_qt_next := He.glo_ok X G (c.fact 29)
  m__law_qt_bent := He.glo_ok X G (c.fact 30)
  m__law_qt_first := He.glo_ok X G (c.fact 31)
  m__law_qt_widened := He.glo_ok X G (c.fact 32)
  m__law_qt_rival := He.glo_ok X G (c.fact 33)
  m__law_right := He.glo_ok X G (c.fact 34)
  m_law := He.glo_ok X G (c.fact 35)
  m_FilmError := He.glo_ok X G (c.fact 36)
  e_FilmError := err_fi (c.fact 37)
  m_InvalidTable := He.glo_ok X G (c.fact 38)
  e_InvalidTable := err_fi (c.fact 39)
  b_ValueError := He.free_ok X G (c.fact 40)
  vei := vei_ok (c.fact 41)
  kits := kits_of (c.fact 42)
  exms := exms_of (c.fact 43)
  f_first_text := c.def_ 0
  f_is_rising := c.def_ 1
  f_check_table := c.def_ 2
  f_next_state := c.def_ 3
  f_first_apart := c.def_ 4
  f_apart := c.def_ 5
  f__law_purse := c.def_ 6
  f__law_coin := c.def_ 7
  f__law_qt_letters := c.def_ 8
  f__law_qt_copy := c.def_ 9
  f__law_qt_sheet := c.def_ 10
  f__law_qt_renumbered := c.def_ 11
  f__law_qt_next := c.def_ 12
  f__law_qt_bent := c.def_ 13
  f__law_qt_first := c.defV 14
  f__law_qt_widened := c.def_ 15
  f__law_qt_rival := c.def_ 16
  f__law_right := c.def_ 17
  f_law := c.def_ 18
  f_FilmError___init__ := c.def_ 19
abbrev R : PySem.W.OpenRow := PySem.W.OpenLaw.row PySem.Challenge.rw_splicedfilms_k18_the_first_text_apart
abbrev hk : PySem.W.Hook := hookN 4 fa fn
def ob (s : PySem.W.SharedT) : AlN := obsNG 4 fa fn (HandSHeadRun.getT s)
theorem ob_eq (s : PySem.W.SharedT) : ob s = hk.obs s.abs := obsNG_eq (HandSHeadRun.getT_eq s)
theorem run (w : World) : HandSHeadRun.RunEq R (PySem.W.view R.prog [26]) hk ob 20000 ["FilmError", "InvalidTable", "PICTURES", "first_text", "GONE", "is_rising", "check_table", "next_state", "first_apart", "apart", "_law_purse", "_law_coin", "_law_qt_letters", "_law_qt_copy", "_law_qt_sheet", "_law_qt_renumbered", "_law_qt_next", "_law_qt_bent", "_law_qt_first", "_law_qt_rival", "_law_qt_widened", "_law_right"] w := by
  intro os
  kernel_rfl
end DL.K18
/-! FM1: films: texts of pictures, and what draws them. -/
namespace DL
open PySem PySem.Spec L2
/-! ### texts by their signs -/
abbrev tz (l : List Nat) : Str := ⟨l.toArray⟩
theorem tz_len (l : List Nat) : (tz l).length = l.length := SX.S_len l
theorem tz_cat (a b : List Nat) : tz a ++ tz b = tz (a ++ b) := SX.S_cat a b
theorem tz_inj {a b : List Nat} : tz a = tz b ↔ a = b := ⟨fun h => SX.S_inj h, fun h => by rw [h]⟩
def low (c : Nat) : Bool := decide (97 ≤ c) && decide (c < 123)
abbrev Low (l : List Nat) : Prop := ∀ c ∈ l, low c = true
theorem Low.app {a b : List Nat} (h : Low a) (h' : Low b) : Low (a ++ b) := fun c m => (List.mem_append.mp m).elim (h c) (h' c)
theorem Low.one {c : Nat} (h : low c = true) : Low [c] := fun d m => by
  have : d = c := by simpa using m
  rw [this]
  exact h
theorem Low.take {a : List Nat} (h : Low a) (n : Nat) : Low (a.take n) := fun c m => h c (List.mem_of_mem_take m)
theorem Low.drop {a : List Nat} (h : Low a) (n : Nat) : Low (a.drop n) := fun c m => h c (List.mem_of_mem_drop m)
abbrev letters : List Nat := [97, 98, 99, 100, 101, 102, 103, 104, 105, 106, 107, 108, 109, 110, 111, 112, 113, 114, 115, 116, 117, 118, 119, 120, 121, 122]
theorem letters_eq : Str.ofString "abcdefghijklmnopqrstuvwxyz" = tz letters := by decide +kernel
theorem empty_eq : Str.ofString "" = tz [] := by decide +kernel
theorem letters_low : Low letters := by decide
theorem mem_letters {c : Nat} : c ∈ letters ↔ low c = true := by
  unfold low
  constructor
  · intro h
    exact letters_low c h
  · intro h
    have h2 : 97 ≤ c ∧ c < 123 := by simpa using h
    simp only [letters, List.mem_cons, List.not_mem_nil, or_false]
    omega
theorem sIx_pos {n d : Nat} {v : Int} (h : 0 ≤ v) : HT.sIx n d (some v) = min v.toNat n := by
  show (if v < 0 then (v + (n : Int)).toNat else min v.toNat n) = _
  rw [if_neg (by omega)]
theorem at_end {μ : Mu} {o : O} : (μ ++ [o])[μ.length]? = some o := by simp
/-! ### indexes -/
theorem atI_of {α : Type} {xs : List α} {i : Int} (h0 : 0 ≤ i) (h1 : i < xs.length) : ∃ x, atI xs i = some x ∧ x ∈ xs := by
  have h2 : i.toNat < xs.length := by omega
  refine ⟨xs[i.toNat], ?_, List.getElem_mem h2⟩
  unfold atI ixN
  rw [if_pos h0, if_pos h1]
  exact List.getElem?_eq_getElem h2
theorem oIx_seq {x : T} {ts : List T} {i : Int} {μ : Mu} {P : KT} (h : rdQ μ x = some ts) (h0 : 0 ≤ i) (h1 : i < ts.length) (hp : ∀ t, t ∈ ts → P t μ) : oIx x (.dat (.int i)) μ P := by
  obtain ⟨t, e, m⟩ := atI_of h0 h1
  refine .inl ?_
  show (match rdQ μ x, nm μ (.dat (.int i)) with
    | some ts, .dat (.int i) => ∃ t, atI ts i = some t ∧ P t μ
    | _, _ => False)
  rw [h]
  exact ⟨t, e, hp t m⟩
theorem oIx_strE {l : List Nat} {i : Int} {μ : Mu} {P : KT} (hl : l.length ≤ 1000000) (h0 : 0 ≤ i) (h1 : i < l.length) (h : P (.dat (.str (tz [l.getD i.toNat 0]))) μ) : oIx (.dat (.str (tz l))) (.dat (.int i)) μ P := by
  refine .inr ?_
  show (tz l).length ≤ sizeLine ∧ ∃ c, atI (tz l).cps.toList i = some c ∧ P (.dat (.str ⟨#[c]⟩)) μ
  have h2 : i.toNat < l.length := by omega
  refine ⟨by rw [tz_len]; exact Nat.le_trans hl sizeLine_ge, l.getD i.toNat 0, ?_, h⟩
  unfold atI ixN
  rw [if_pos h0, if_pos h1]
  show l[i.toNat]? = some (l.getD i.toNat 0)
  rw [List.getD_eq_getElem?_getD, List.getElem?_eq_getElem h2]
  rfl
theorem mJoin_ok {x t : T} {μ : Mu} {P : KT} {a : Str} {xs : List T} {ys : List Str} (hx : nm μ x = .dat (.str a)) (h : rdQ μ t = some xs) (e : strsT μ xs = some ys) (hz : (ys.map (·.length)).sum + ys.length * a.length ≤ 16777216) (hp : P (.dat (.str (Txt.join a ys))) μ) : mJoin x [t] μ P := by
  unfold mJoin
  rw [hx]
  show (match rdQ μ t with
    | some xs => match strsT μ xs with
      | some ys => (ys.map (·.length)).sum + ys.length * a.length ≤ 16777216 ∧ P (.dat (.str (Txt.join a ys))) μ
      | none => False
    | none => False)
  rw [h]
  show (match strsT μ xs with
      | some ys => (ys.map (·.length)).sum + ys.length * a.length ≤ 16777216 ∧ P (.dat (.str (Txt.join a ys))) μ
      | none => False)
  rw [e]
  exact ⟨hz, hp⟩
theorem joinL_nil : ∀ ls : List (List Nat), TL.joinL [] ls = ls.flatten
  | [] => rfl
  | [p] => by simp [TL.joinL]
  | p :: q :: r => by
    rw [TL.joinL, joinL_nil (q :: r)]
    simp
theorem join_nil (ls : List (List Nat)) : Txt.join (tz []) (ls.map tz) = tz ls.flatten := by
  have := SX.join_S [] ls
  rw [joinL_nil] at this
  exact this
theorem join_ones : ∀ ys : List Str, (∀ y ∈ ys, ∃ c, low c = true ∧ y = tz [c]) → ∃ cs : List Nat, ys = (cs.map fun c => [c]).map tz ∧ Low cs ∧ cs.length = ys.length
  | [], _ => ⟨[], rfl, fun c h => (by simp at h), rfl⟩
  | y :: ys, h => by
    obtain ⟨c, hc, rfl⟩ := h y List.mem_cons_self
    obtain ⟨cs, e, lo, l⟩ := join_ones ys fun z hz => h z (List.mem_cons_of_mem _ hz)
    refine ⟨c :: cs, by rw [e]; rfl, fun d hd => ?_, by simp [l]⟩
    rcases List.mem_cons.mp hd with rfl | m
    · exact hc
    · exact lo d m
theorem flat_ones : ∀ cs : List Nat, (cs.map fun c => [c]).flatten = cs
  | [] => rfl
  | c :: cs => by simp [flat_ones cs]
theorem cLen_str {l : List Nat} {μ : Mu} {P : KT} (hl : l.length ≤ 1000000) (h : P (.dat (.int l.length)) μ) : cLen [.dat (.str (tz l))] μ P := by
  have e : lenT μ (.dat (.str (tz l))) = some l.length := by
    show (if (tz l).length ≤ sizeLine then some (tz l).length else none) = _
    rw [tz_len, if_pos (Nat.le_trans hl sizeLine_ge)]
  show (match lenT μ (.dat (.str (tz l))) with
    | some n => P (.dat (.int n)) μ
    | none => False)
  rw [e]
  exact h
theorem cLen_seq {t : T} {ts : List T} {μ : Mu} {P : KT} (e : rdQ μ t = some ts) (hs : ∀ z, nm μ t ≠ .dat (.str z)) (h : P (.dat (.int ts.length)) μ) : cLen [t] μ P := by
  have e0 : ∀ t' : T, rdQ μ (nm μ t) = rdQ μ t := fun _ => by
    cases t with
    | dat d => rfl
    | exc a d n => rfl
    | fn f p => rfl
    | loc n =>
      cases q : μ[n]? with
      | none => simp [nm, rdQ, rdL, rdT, q]
      | some o =>
        cases o with
        | frz d => cases d <;> simp [nm, rdQ, rdL, rdT, q]
        | _ => simp [nm, rdQ, rdL, rdT, q]
  have e1 : lenT μ t = some ts.length := by
    unfold lenT
    split
    · rename_i z q
      exact absurd q (hs z)
    · rw [e0 t, e]
      rfl
  show (match lenT μ t with
    | some n => P (.dat (.int n)) μ
    | none => False)
  rw [e1]
  exact h
theorem oEqA_dd {x y : T} {μ : Mu} {P : KT} {d e : PyData} (h1 : toD 8 μ x = some d) (h2 : toD 8 μ y = some e) (s1 : SeqAt.shaped d = true) (s2 : SeqAt.shaped e = true) (hp : P (.dat (.bool (PyData.eqv d e))) μ) : oEqA x y μ P := by
  refine .inr ?_
  unfold oEq
  rw [h1, h2]
  exact ⟨s1, s2, hp⟩
theorem oNeA_dd {x y : T} {μ : Mu} {P : KT} {d e : PyData} (h1 : toD 8 μ x = some d) (h2 : toD 8 μ y = some e) (s1 : SeqAt.shaped d = true) (s2 : SeqAt.shaped e = true) (hp : P (.dat (.bool (!PyData.eqv d e))) μ) : oNeA x y μ P := by
  refine .inr ?_
  unfold oNe
  rw [h1, h2]
  exact ⟨s1, s2, hp⟩
/-- signs that a text may have -/
abbrev Sgn (l : List Nat) : Prop := ∀ c ∈ l, c < 0x110000
theorem Low.sgn {l : List Nat} (h : Low l) : Sgn l := fun c m => by
  have := h c m
  unfold low at this
  have : 97 ≤ c ∧ c < 123 := by simpa using this
  omega
theorem strOk_tz {l : List Nat} (h : Sgn l) : PyData.strOk (tz l) = true := by
  unfold PyData.strOk
  rw [← Array.all_toList]
  exact List.all_eq_true.mpr fun c hc => decide_eq_true (h c hc)
theorem shaped_nil : SeqAt.shaped (.list []) = true := by decide
theorem eqv_nil (ds : List PyData) : PyData.eqv (.list ds) (.list []) = ds.isEmpty := by
  cases ds <;> simp [PyData.eqv, PyData.eqvAll]
/-! ### signs -/
/-! ### words -/
/-! ### pairs -/
/-! ### joins -/
end DL
/-! FM2: films, pieces, rules: what is let, what is refused. -/
namespace DL
open PySem PySem.Spec L2
def plainB (l : List Nat) : Bool := l.all low
theorem plainB_iff {l : List Nat} : plainB l = true ↔ Low l := by
  unfold plainB
  rw [List.all_eq_true]
abbrev DEof (n : Nat) (PT : KT) (PX : KX) : DE := { nx := fun _ μ' => endV n PT (.dat .none) μ', rt := endV n PT, ex := fun C t _ μ' => endV n (PX C) t μ' }
theorem end0 {P : KT} {d : PyData} {μ : Mu} (h : P (.dat d) []) : endV 0 P (.dat d) μ := end_dat (Nat.zero_le _) rfl h fun o ho => by simp at ho
theorem call0d {ds : List PyData} {dsp : DSp} {μ : Mu} {P : KT} {PX : KX} (hd : ∀ (PT : KT) (PX' : KX), (∀ d, P (.dat d) μ → PT (.dat d) []) → (∀ C d, PX C (.dat d) μ → PX' C (.dat d) []) → (∀ ts os, (∀ f, O.ren f (.lst ts) = .lst ts) → os = [O.lst ts] → P (.loc μ.length) (μ ++ os) → PT (.loc 0) os) → dsp (ds.map .dat) [] PT PX') : callD dsp (ds.map .dat) μ P PX := by
  refine call0 (hd _ _ (fun d h => ?_) (fun C d h => ?_) fun ts os hr e h => ?_)
  · simpa [T.ren] using h
  · simpa [T.ren] using h
  · subst e
    simpa [T.ren, gV, hr] using h
/-! ### is_piece -/
/-! ### check_film -/
theorem oNeA_int' (i j : Int) (μ : Mu) (P : KT) : oNeA (.dat (.int i)) (.dat (.int j)) μ P ↔ P (.dat (.bool (!decide (i = j)))) μ := by
  refine ⟨fun h => ?_, fun h => .inl h⟩
  rcases h with h | h
  · exact h
  · unfold oNe at h
    rw [toD_dat, toD_dat] at h
    have e : PyData.eqv (.int i) (.int j) = decide (i = j) := by
      simp only [PyData.eqv]
      rw [Bool.eq_iff_iff]
      simp
    rw [← e]
    exact h.2.2
/-! ### check_rule -/
abbrev txs (r : List (List Nat)) : List PyData := r.map fun w => .str (tz w)
def ruleF (r : List (List Nat)) : Option (Nat × PyData) :=
  if r.length ≠ 4 then some (3, .tuple (txs r)) else match r.find? (fun w => !plainB w) with
  | some w => some (2, .str (tz w))
  | none => if r.getD 0 [] = [] ∨ r.getD 3 [] = [] then some (3, .tuple (txs r)) else none
end DL
/-! FM3: what the laws hold against the program: faults of films and rules, drawn ones. -/
/-! FM4: drawn films and rules that are perhaps wrong; what is due. -/
namespace DL
open PySem PySem.Spec L2
/-! ### live lists -/
section
variable {n : Nat} {ts : List T} {μ : Mu} {P : KT}
theorem rdL_live (h : μ[n]? = some (.lst ts)) : rdL μ (.loc n) = some ts := by
  show (match μ[n]? with
    | some (.lst ts) => some ts
    | some (.frz (.list ds)) => some (ds.map .dat)
    | _ => none) = some ts
  rw [h]
theorem rdQ_live (h : μ[n]? = some (.lst ts)) : rdQ μ (.loc n) = some ts := by
  unfold rdQ
  rw [rdL_live h]
theorem nm_live (h : μ[n]? = some (.lst ts)) : nm μ (.loc n) = .loc n := nm_loc h fun d z => nomatch z
theorem cLen_live (h : μ[n]? = some (.lst ts)) (hp : P (.dat (.int ts.length)) μ) : cLen [.loc n] μ P := cLen_seq (rdQ_live h) (fun z q => by rw [nm_live h] at q; cases q) hp
theorem onL_live {k : Nat → List T → Prop} (h : μ[n]? = some (.lst ts)) (hk : k n ts) : onL (.loc n) μ k := by
  unfold onL
  show (match μ[n]? with
    | some (.lst xs) => k n xs
    | _ => False)
  rw [h]
  exact hk
theorem mInsert_live {i : Int} {y : T} (h : μ[n]? = some (.lst ts)) (l : ts.length < 1000000) (h0 : 0 ≤ i) (h1 : i < 2 ^ 63) (hp : P (.dat .none) (μ.set n (.lst (ts.take i.toNat ++ [y] ++ ts.drop i.toNat)))) : mInsert (.loc n) [.dat (.int i), y] μ P := by
  have := sizeLine_ge
  show onL (.loc n) μ fun m xs => xs.length < sizeLine ∧ 0 ≤ i ∧ i < 2 ^ 63 ∧ P (.dat .none) (μ.set m (.lst (xs.take i.toNat ++ [y] ++ xs.drop i.toNat)))
  exact onL_live h ⟨by omega, h0, h1, hp⟩
theorem mAppend_live {y : T} (h : μ[n]? = some (.lst ts)) (l : ts.length < 1000000) (hp : P (.dat .none) (μ.set n (.lst (ts ++ [y])))) : mAppend (.loc n) [y] μ P := by
  have := sizeLine_ge
  show onL (.loc n) μ fun m xs => xs.length < sizeLine ∧ P (.dat .none) (μ.set m (.lst (xs ++ [y])))
  exact onL_live h ⟨by omega, hp⟩
theorem tyT_live (h : μ[n]? = some (.lst ts)) : tyT "list" μ (.loc n) := by
  unfold tyT
  rw [nm_live h]
  exact ⟨rfl, by rw [rdL_live h]; rfl⟩
theorem oSetL_live {i : Int} {y : T} {Q : Mu → Prop} (h : μ[n]? = some (.lst ts)) (h0 : 0 ≤ i) (h1 : i < ts.length) (hp : Q (μ.set n (.lst (ts.set i.toNat y)))) : oSetL (.loc n) (.dat (.int i)) y μ Q := by
  show onL (.loc n) μ fun m xs => ∃ j, ixN xs.length i = some j ∧ Q (μ.set m (.lst (xs.set j y)))
  refine onL_live h ⟨i.toNat, ?_, hp⟩
  unfold ixN
  rw [if_pos h0, if_pos h1]
end
/-! ### odd texts -/
theorem Sgn.app {a b : List Nat} (h : Sgn a) (h' : Sgn b) : Sgn (a ++ b) := fun c m => (List.mem_append.mp m).elim (h c) (h' c)
/-! ### rules bent -/
def Short (r : List (List Nat)) : Prop := ∀ w ∈ r, Sgn w ∧ w.length ≤ 100
/-- the texts of a live list -/
def dts (r : List (List Nat)) : List T := r.map fun w => T.dat (.str (tz w))
theorem Short.take {r : List (List Nat)} (h : Short r) (n : Nat) : Short (r.take n) := fun w m => h w (List.mem_of_mem_take m)
theorem Short.drop {r : List (List Nat)} (h : Short r) (n : Nat) : Short (r.drop n) := fun w m => h w (List.mem_of_mem_drop m)
theorem Short.app {a b : List (List Nat)} (h : Short a) (h' : Short b) : Short (a ++ b) := fun w m => (List.mem_append.mp m).elim (h w) (h' w)
theorem Short.one {w : List Nat} (h : Sgn w) (l : w.length ≤ 100) : Short [w] := fun v m => by
  have : v = w := by simpa using m
  rw [this]
  exact ⟨h, l⟩
theorem Short.set {r : List (List Nat)} (h : Short r) (n : Nat) {w : List Nat} (hw : Sgn w) (l : w.length ≤ 100) : Short (r.set n w) := fun v m => by
  rcases List.mem_or_eq_of_mem_set m with z | z
  · exact h v z
  · rw [z]
    exact ⟨hw, l⟩
end DL
/-! FM5: films full of pieces; faults of both; what is due. -/
/-! FM6: where two pieces stand in a film. -/
namespace DL
open PySem PySem.Spec L2 PySem.Builtin.Str
def occB (s y : List Nat) (p : Nat) : Bool := decide ((s.drop p).take y.length = y)
theorem occB_le {s y : List Nat} {p : Nat} (h : occB s y p = true) : y.length ≤ s.length - p := by
  have e := of_decide_eq_true h
  have := congrArg List.length e
  rw [List.length_take, List.length_drop] at this
  omega
def dsi (xs : List Nat) : List T := xs.map fun (p : Nat) => T.dat (.int (p : Int))
/-! ### find -/
theorem occ_full (s sub : Str) (hi : Nat) : ∀ (l : List Nat) (st : Array Nat × Nat), st.fst.size = 1 → (forIn l st (StrLaws.occBody s sub hi 1)).run.fst = st.fst
  | [], st, _ => rfl
  | a :: l, st, h => by
    rw [List.forIn_cons]
    unfold StrLaws.occBody
    rw [if_neg (by rintro ⟨⟨⟨c, _⟩, _⟩, _⟩; omega)]
    exact occ_full s sub hi l _ h
theorem occ_first (s sub : Str) (hi : Nat) : ∀ (l : List Nat) (free : Nat), (∀ i ∈ l, free ≤ i) →
    (forIn l ((#[] : Array Nat), free) (StrLaws.occBody s sub hi 1)).run.fst = (match l.find? fun i => decide (i + sub.length ≤ hi) && subAt s sub i with
      | some i => #[i]
      | none => #[])
  | [], free, _ => rfl
  | a :: l, free, hf => by
    rw [List.forIn_cons]
    unfold StrLaws.occBody
    by_cases hc : a + sub.length ≤ hi ∧ subAt s sub a = true
    · have c1 : (((#[] : Array Nat), free).fst.size < 1 ∧ ((#[] : Array Nat), free).snd ≤ a) ∧ a + sub.length ≤ hi := ⟨⟨by simp, hf a List.mem_cons_self⟩, hc.1⟩
      rw [if_pos ⟨c1, hc.2⟩]
      have e := occ_full s sub hi l (#[a], a + sub.length) rfl
      rw [List.find?_cons_of_pos (by simp [hc.1, hc.2])]
      exact e
    · have c2 : ¬ (((((#[] : Array Nat), free).fst.size < 1 ∧ ((#[] : Array Nat), free).snd ≤ a) ∧ a + sub.length ≤ hi) ∧ subAt s sub a = true) := fun h => hc ⟨h.1.2, h.2⟩
      rw [if_neg c2]
      have e := occ_first s sub hi l free fun i m => hf i (List.mem_cons_of_mem _ m)
      rw [List.find?_cons_of_neg (by simpa using fun h => by simpa using fun z => hc ⟨h, z⟩)]
      exact e
theorem subAt_occ (s y : List Nat) (i : Nat) : (decide (i + (tz y).length ≤ (tz s).length) && subAt (tz s) (tz y) i) = (decide (i + y.length ≤ s.length) && occB s y i) := by
  rw [StrLaws.subAt_eq, tz_len, tz_len]
  congr 1
  unfold occB
  rw [Bool.eq_iff_iff, decide_eq_true_eq, beq_iff_eq]
/-- the first place from lo on -/
def first (s y : List Nat) (lo : Nat) : Int := match (List.range' lo (s.length + 1 - lo)).find? fun i => decide (i + y.length ≤ s.length) && occB s y i with
  | some i => (i : Int)
  | none => -1
theorem find_first (s y : List Nat) (lo : Nat) : (match occurrences (tz s) (tz y) lo (tz s).length 1 with
    | i :: _ => (i : Int)
    | [] => -1) = first s y lo := by
  rw [StrLaws.occ_eq, occ_first _ _ _ _ _ (fun i m => (List.mem_range'_1.mp m).1)]
  unfold first
  have e : (fun i => decide (i + (tz y).length ≤ (tz s).length) && subAt (tz s) (tz y) i) = fun i => decide (i + y.length ≤ s.length) && occB s y i := funext fun i => subAt_occ s y i
  rw [e, tz_len]
  cases (List.range' lo (s.length + 1 - lo)).find? fun i => decide (i + y.length ≤ s.length) && occB s y i <;> rfl
theorem find_tz (s y : List Nat) : Txt.find (tz s) (tz y) = first s y 0 := find_first s y 0
/-! ### all places, one behind another -/
theorem first_none {s y : List Nat} {b : Nat} (h : first s y b < 0) (hy : y ≠ []) (p : Nat) (h1 : b ≤ p) (h2 : p < s.length) : occB s y p = false := by
  cases q : occB s y p with
  | false => rfl
  | true =>
    exfalso
    have hl := occB_le q
    have hp := List.length_pos_iff.mpr hy
    unfold first at h
    split at h
    · omega
    · rename_i e
      rw [List.find?_eq_none] at e
      exact e p (List.mem_range'_1.mpr ⟨h1, by omega⟩) (by rw [q, Bool.and_true]; exact decide_eq_true (by omega))
theorem dsi_len (xs : List Nat) : (dsi xs).length = xs.length := by simp [dsi]
theorem dsi_app (a b : List Nat) : dsi a ++ dsi b = dsi (a ++ b) := by simp [dsi]
theorem dsi_grd (xs : List Nat) : ∀ f, O.ren f (.lst (dsi xs)) = .lst (dsi xs) := fun f => by
  have e : dsi xs = (xs.map fun (p : Nat) => PyData.int (p : Int)).map T.dat := by simp [dsi]
  rw [e]
  exact (Grd.lst _).1 f
/-! ### the law's places -/
/-! ### the program's places -/
/-! ### a live list passed for good -/
theorem Fz.keep {μ μ' : Mu} (f : Fz μ μ') : ∀ (n : Nat) (d : PyData), μ[n]? = some (.frz d) → μ'[n]? = some (.frz d) := by
  induction f with
  | refl μ => exact fun n d h => h
  | lst m h a k ih =>
    intro n d hn
    refine ih n d ?_
    rw [List.getElem?_set_ne (fun e => by rw [e, hn] at h; cases h)]
    exact hn
  | tup m h a k ih =>
    intro n d hn
    refine ih n d ?_
    rw [List.getElem?_set_ne (fun e => by rw [e, hn] at h; cases h)]
    exact hn
  | nrm m h k ih =>
    intro n d hn
    refine ih n d ?_
    rw [List.getElem?_set_ne (fun e => by rw [e, hn] at h; cases h)]
    exact hn
  | nrt m h k ih =>
    intro n d hn
    refine ih n d ?_
    rw [List.getElem?_set_ne (fun e => by rw [e, hn] at h; cases h)]
    exact hn
end DL
/-! FM7: plans and boxes. -/
namespace DL
open PySem PySem.Spec L2
/-! ### data that can be told and compared: k deep, of bulk b -/
structure Gd (k b : Nat) (d : PyData) : Prop where
  lay : d.canLay0 = true
  dep : d.depth ≤ k
  lv : PyData.leavesShort 64 d = true
  sw : d.showable = true
  nd : d.hasDict = false
  bk : d.bulk ≤ b
structure GdL (k b : Nat) (ds : List PyData) : Prop where
  lay : PyData.canLayAll0 ds = true
  dep : PyData.depthAll ds ≤ k
  lv : PyData.leavesShortAll 64 ds = true
  sw : PyData.showableAll ds = true
  nd : PyData.hasDictAll ds = false
  bk : PyData.bulkAll ds ≤ b
theorem Gd.str {l : List Nat} {b : Nat} (h : Sgn l) (hl : l.length ≤ b) (k : Nat := 0) : Gd k b (.str (tz l)) :=
  ⟨by rw [PyData.canLay0]; exact strOk_tz h, by rw [PyData.depth]; omega, str_short fun c m => by have := h c m; omega, by rw [PyData.showable], by rw [PyData.hasDict], by
    rw [PyData.bulk]
    show (tz l).length ≤ b
    rw [tz_len]
    exact hl⟩
theorem Gd.int {i : Int} (h : i.natAbs < 10 ^ 60) (k b : Nat := 0) : Gd k b (.int i) :=
  ⟨by rw [PyData.canLay0], by rw [PyData.depth]; omega, int_short h, decide_eq_true (Nat.lt_trans (log2_abs (n := 200) (by omega) (by decide)) (by decide)), by rw [PyData.hasDict], by rw [PyData.bulk]; omega⟩
theorem Gd.bool (x : Bool) (k b : Nat := 0) : Gd k b (.bool x) :=
  ⟨by rw [PyData.canLay0], by rw [PyData.depth]; omega, by cases x <;> decide +kernel, by rw [PyData.showable], by rw [PyData.hasDict], by rw [PyData.bulk]; omega⟩
theorem Gd.none (k b : Nat := 0) : Gd k b .none :=
  ⟨by rw [PyData.canLay0], by rw [PyData.depth]; omega, by decide +kernel, by rw [PyData.showable], by rw [PyData.hasDict], by rw [PyData.bulk]; omega⟩
theorem Gd.mono {k k' b b' : Nat} {d : PyData} (h : Gd k b d) (hk : k ≤ k') (hb : b ≤ b') : Gd k' b' d := ⟨h.lay, Nat.le_trans h.dep hk, h.lv, h.sw, h.nd, Nat.le_trans h.bk hb⟩
theorem GdL.nil (k : Nat := 0) (b : Nat := 0) : GdL k b [] := ⟨by simp [PyData.canLayAll0], by simp [PyData.depthAll], by simp [PyData.leavesShortAll], by simp [PyData.showableAll], by simp [PyData.hasDictAll], by simp [PyData.bulkAll]⟩
theorem GdL.cons {k b c n : Nat} {d : PyData} {ds : List PyData} (h : Gd k b d) (t : GdL k c ds) (hn : b + 1 + c ≤ n := by omega) : GdL k n (d :: ds) := by
  have h1 := h.dep
  have h2 := t.dep
  have h3 := h.bk
  have h4 := t.bk
  refine ⟨?_, ?_, ?_, ?_, ?_, ?_⟩
  · simp [PyData.canLayAll0, h.lay, t.lay]
  · simp [PyData.depthAll]; omega
  · simp [PyData.leavesShortAll, h.lv, t.lv]
  · simp [PyData.showableAll, h.sw, t.sw]
  · simp [PyData.hasDictAll, h.nd, t.nd]
  · simp [PyData.bulkAll]; omega
theorem GdL.all {α : Type} {k b : Nat} {f : α → PyData} : ∀ {l : List α} {n : Nat}, (∀ x ∈ l, Gd k b (f x)) → l.length ≤ n → GdL k (n * (b + 1)) (l.map f)
  | [], n, _, _ => (GdL.nil k _)
  | x :: l, 0, _, hn => by simp at hn
  | x :: l, n + 1, h, hn => by
    have t := GdL.all (l := l) (n := n) (fun y m => h y (List.mem_cons_of_mem _ m)) (by simpa using hn)
    exact GdL.cons (h x List.mem_cons_self) t (by rw [Nat.add_mul]; omega)
theorem Gd.lst {k b : Nat} {ds : List PyData} (h : GdL k b ds) (n : Nat := k + 1) (hn : k + 1 ≤ n := by omega) : Gd n b (.list ds) := by
  have := h.dep
  exact ⟨by rw [PyData.canLay0]; exact h.lay, by rw [PyData.depth]; omega, by rw [PyData.leavesShort]; exact h.lv, by rw [PyData.showable]; exact h.sw, by rw [PyData.hasDict]; exact h.nd, by rw [PyData.bulk]; exact h.bk⟩
theorem Gd.tup {k b : Nat} {ds : List PyData} (h : GdL k b ds) (n : Nat := k + 1) (hn : k + 1 ≤ n := by omega) : Gd n b (.tuple ds) := by
  have := h.dep
  exact ⟨by rw [PyData.canLay0]; exact h.lay, by rw [PyData.depth]; omega, by rw [PyData.leavesShort]; exact h.lv, by rw [PyData.showable]; exact h.sw, by rw [PyData.hasDict]; exact h.nd, by rw [PyData.bulk]; exact h.bk⟩
theorem Gd.shw {k b : Nat} {d : PyData} (h : Gd k b d) (hk : k ≤ 60 := by omega) (hb : b ≤ 15000 := by omega) : Shw d := shw_ok h.lv h.sw h.nd (Nat.le_trans h.dep hk) (Nat.le_trans h.bk hb)
theorem Gd.shp {k b : Nat} {d : PyData} (h : Gd k b d) (hk : k ≤ 6 := by omega) : SeqAt.shaped d = true := by
  unfold SeqAt.shaped
  have := h.dep
  simp [h.lay]
  omega
/-! ### strips and rules as data -/
abbrev jns (js : List (List (List Nat))) : List PyData := js.map fun r => .tuple (txs r)
theorem txs_dts (ws : List (List Nat)) : (txs ws).map T.dat = dts ws := by
  rw [List.map_map]
  rfl
/-- a right rule -/
structure Jn (r : List (List Nat)) : Prop where
  ex : ∃ a b c d, r = [a, b, c, d] ∧ Low a ∧ Low b ∧ Low c ∧ Low d ∧ 1 ≤ a.length ∧ 1 ≤ d.length ∧ a.length ≤ 10 ∧ b.length ≤ 10 ∧ c.length ≤ 10 ∧ d.length ≤ 10
structure Pl (n m : Nat) (rs : List (List Nat)) (js : List (List (List Nat))) : Prop where
  r : ∀ w ∈ rs, Low w ∧ 1 ≤ w.length ∧ w.length ≤ 40
  j : ∀ q ∈ js, Jn q
  rl : rs.length ≤ n
  jl : js.length ≤ m
theorem Jn.low {r : List (List Nat)} (h : Jn r) : ∀ w ∈ r, Low w ∧ w.length ≤ 10 := fun w m => by
  obtain ⟨a, b, c, d, rfl, la, lb, lc, ld, _, _, a1, b1, c1, d1⟩ := h.ex
  rcases (show w = a ∨ w = b ∨ w = c ∨ w = d by simpa using m) with rfl | rfl | rfl | rfl
  · exact ⟨la, a1⟩
  · exact ⟨lb, b1⟩
  · exact ⟨lc, c1⟩
  · exact ⟨ld, d1⟩
theorem Jn.len {r : List (List Nat)} (h : Jn r) : r.length = 4 := by
  obtain ⟨a, b, c, d, rfl, _⟩ := h.ex
  rfl
theorem Jn.ok {r : List (List Nat)} (h : Jn r) : ruleF r = none := by
  obtain ⟨a, b, c, d, rfl, la, lb, lc, ld, a1, d1, _⟩ := h.ex
  have ha : a ≠ [] := fun z => by rw [z] at a1; simp at a1
  have hd : d ≠ [] := fun z => by rw [z] at d1; simp at d1
  simp [ruleF, plainB_iff.mpr la, plainB_iff.mpr lb, plainB_iff.mpr lc, plainB_iff.mpr ld, ha, hd]
theorem gd_txs {ws : List (List Nat)} {n b : Nat} (h : ∀ w ∈ ws, Sgn w ∧ w.length ≤ b) (hn : ws.length ≤ n) : GdL 0 (n * (b + 1)) (txs ws) := GdL.all (fun w m => Gd.str (h w m).1 (h w m).2) hn
theorem gd_jns {js : List (List (List Nat))} {n c b : Nat} (h : ∀ r ∈ js, r.length ≤ c ∧ ∀ w ∈ r, Sgn w ∧ w.length ≤ b) (hn : js.length ≤ n) : GdL 1 (n * (c * (b + 1) + 1)) (jns js) :=
  GdL.all (fun r m => Gd.tup (gd_txs (h r m).2 (h r m).1)) hn
theorem Pl.gr {n m : Nat} {rs : List (List Nat)} {js : List (List (List Nat))} (h : Pl n m rs js) : Gd 1 (n * 41) (.list (txs rs)) := Gd.lst (gd_txs (b := 40) (fun w hw => ⟨(h.r w hw).1.sgn, (h.r w hw).2.2⟩) h.rl)
theorem Pl.gj {n m : Nat} {rs : List (List Nat)} {js : List (List (List Nat))} (h : Pl n m rs js) : Gd 2 (m * 45) (.list (jns js)) := Gd.lst (gd_jns (c := 4) (b := 10) (fun r hr => ⟨by rw [(h.j r hr).len]; omega, fun w hw => ⟨((h.j r hr).low w hw).1.sgn, ((h.j r hr).low w hw).2⟩⟩) h.jl)
end DL
/-! FM8: drawn plans. -/
/-! FM9: great plans; boxes made and asked. -/
/-! FM10: boxes made and asked. -/
namespace DL
open PySem PySem.Spec L2
abbrev boxO (cE : Nat → Addr) (rs : List (List Nat)) (js : List (List (List Nat))) : O := .ins (cE 20) [(("all_strips" : Str), .dat (.tuple (txs rs))), (("all_rules" : Str), .dat (.tuple (jns js)))]
/-- a list or tuple of data: a live list, or told -/
def SqA (μ : Mu) (t : T) (ds : List PyData) : Prop := (∃ n, t = .loc n ∧ μ[n]? = some (.lst (ds.map T.dat))) ∨ t = .dat (.list ds) ∨ t = .dat (.tuple ds)
theorem SqA.up {μ μ' : Mu} {t : T} {ds : List PyData} (h : SqA μ t ds) (k : ∀ n o, t = .loc n → μ[n]? = some o → μ'[n]? = some o) : SqA μ' t ds := by
  rcases h with ⟨n, rfl, h⟩ | h | h
  · exact .inl ⟨n, rfl, k n _ rfl h⟩
  · exact .inr (.inl h)
  · exact .inr (.inr h)
end DL
/-! FM11: boxes asked. -/
/-! FM12: what boxes tell. -/
namespace DL
open PySem PySem.Spec L2
/-! ### pictures -/
def wholeL (rs : List (List Nat)) (js : List (List (List Nat))) : List Nat := rs.flatten ++ (js.map List.flatten).flatten
def picsL (l : List Nat) : List Nat := letters.filter fun c => decide (c ∈ l)
theorem one_sorted : ∀ (cs : List Nat) (c : Nat), PyProof.Rows.risingS (tz [c]) (cs.map fun c => tz [c]) = true → (c :: cs).Pairwise (· ≤ ·)
  | [], c, _ => by simp
  | d :: cs, c, h => by
    have h : (!ltCps [d] [c] && PyProof.Rows.risingS (tz [d]) (cs.map fun c => tz [c])) = true := h
    rw [Bool.and_eq_true] at h
    have ih := one_sorted cs d h.2
    have hcd : c ≤ d := by
      have := h.1
      simp [ltCps] at this
      omega
    refine List.pairwise_cons.mpr ⟨fun x m => ?_, ih⟩
    rcases List.mem_cons.mp m with rfl | m
    · exact hcd
    · exact Nat.le_trans hcd (List.rel_of_pairwise_cons ih m)
theorem ones_sorted {cs : List Nat} (h : PyProof.Rows.sortedS (cs.map fun c => tz [c]) = true) : cs.Pairwise (· ≤ ·) := by
  cases cs with
  | nil => exact .nil
  | cons c cs => exact one_sorted cs c h
theorem picsL_sorted (l : List Nat) : (picsL l).Pairwise (· < ·) := List.Pairwise.filter _ (by decide)
theorem picsL_mem {l : List Nat} (h : Low l) {c : Nat} : c ∈ picsL l ↔ c ∈ l := by
  unfold picsL
  rw [List.mem_filter, mem_letters]
  exact ⟨fun z => by simpa using z.2, fun z => ⟨h c z, by simpa using z⟩⟩
theorem sorted_pics {l : List Nat} (hl : Low l) {ys : List Str} (nd : ys.Nodup) (hm : ∀ k, k ∈ ys ↔ k ∈ l.map fun c => tz [c]) (hs : PyProof.Rows.sortedS ys = true) : ys = (picsL l).map fun c => tz [c] := by
  obtain ⟨cs, rfl⟩ : ∃ cs : List Nat, ys = cs.map fun c => tz [c] := by
    refine ⟨ys.map fun y => y.cps.toList.getD 0 0, ?_⟩
    rw [List.map_map]
    conv => lhs; rw [← List.map_id ys]
    refine List.map_congr_left fun y hy => ?_
    obtain ⟨c, _, rfl⟩ := List.mem_map.mp ((hm y).mp hy)
    rfl
  have inj : ∀ {a b : Nat}, tz [a] = tz [b] → a = b := fun h => by
    have := tz_inj.mp h
    simpa using this
  have nd2 : cs.Nodup := by
    rw [List.nodup_iff_pairwise_ne] at nd ⊢
    rw [List.pairwise_map] at nd
    exact nd.imp fun h z => h (by rw [z])
  have mem : ∀ c, c ∈ cs ↔ c ∈ l := fun c => by
    constructor
    · intro h
      obtain ⟨d, hd, e⟩ := List.mem_map.mp ((hm (tz [c])).mp (List.mem_map.mpr ⟨c, h, rfl⟩))
      rw [← inj e]
      exact hd
    · intro h
      obtain ⟨d, hd, e⟩ := List.mem_map.mp ((hm (tz [c])).mpr (List.mem_map.mpr ⟨c, h, rfl⟩))
      rw [← inj e]
      exact hd
  have p : cs.Perm (picsL l) := (List.perm_ext_iff_of_nodup nd2 ((picsL_sorted l).imp fun h => Nat.ne_of_lt h)).mpr fun c => by rw [mem, picsL_mem hl]
  have e : cs = picsL l := p.eq_of_pairwise (fun a b _ _ h1 h2 => Nat.le_antisymm h1 h2) (ones_sorted hs) ((picsL_sorted l).imp fun h => Nat.le_of_lt h)
  rw [e]
theorem join_chars (cs : List Nat) : Txt.join (tz []) (cs.map fun c => tz [c]) = tz cs := by
  have := join_nil (cs.map fun c => [c])
  rw [flat_ones, List.map_map] at this
  exact this
end DL
/-! FM13: pictures told by a box, and by the law. -/
namespace DL
open PySem PySem.Spec L2
theorem strsT_ones (μ : Mu) (cs : List Nat) : strsT μ (cs.map fun c => T.dat (.str (tz [c]))) = some (cs.map fun c => tz [c]) := by
  have := strsT_map μ (cs.map fun c => tz [c])
  rw [List.map_map] at this
  exact this
theorem sum_le {α : Type} {f : α → Nat} {b : Nat} : ∀ {l : List α}, (∀ x ∈ l, f x ≤ b) → (l.map f).sum ≤ l.length * b
  | [], _ => by simp
  | x :: l, h => by
    have h1 := h x List.mem_cons_self
    have h2 := sum_le (l := l) fun y m => h y (List.mem_cons_of_mem _ m)
    rw [List.map_cons, List.sum_cons, List.length_cons, Nat.add_mul]
    omega
theorem flat_len_le {l : List (List Nat)} {b : Nat} (h : ∀ w ∈ l, w.length ≤ b) : l.flatten.length ≤ l.length * b := by
  rw [List.length_flatten]
  exact sum_le h
/-- bounds of a box that is asked for its pictures -/
structure Pw (rs : List (List Nat)) (js : List (List (List Nat))) : Prop where
  rl : rs.length ≤ 1000
  jl : js.length ≤ 1000
  r : ∀ w ∈ rs, Low w ∧ w.length ≤ 1000
  j : ∀ q ∈ js, q.length ≤ 100 ∧ ∀ w ∈ q, Low w ∧ w.length ≤ 1000
  tot : (wholeL rs js).length < 4000
theorem low_flat {l : List (List Nat)} (h : ∀ w ∈ l, Low w) : Low l.flatten := fun c m => by
  obtain ⟨w, hw, hc⟩ := List.mem_flatten.mp m
  exact h w hw c hc
theorem Pw.low {rs : List (List Nat)} {js : List (List (List Nat))} (h : Pw rs js) : Low (wholeL rs js) := by
  refine Low.app (low_flat fun w m => (h.r w m).1) (low_flat fun w m => ?_)
  obtain ⟨q, hq, rfl⟩ := List.mem_map.mp m
  exact low_flat fun w m => ((h.j q hq).2 w m).1
end DL
/-! FM14: whether a box tells a plan. -/
namespace DL
open PySem PySem.Spec L2
structure Shp (rs : List (List Nat)) (js : List (List (List Nat))) : Prop where
  pw : Pw rs js
  r : Shw (.list (txs rs))
  j : Shw (.list (jns js))
theorem Pl.shp {n m : Nat} {rs : List (List Nat)} {js : List (List (List Nat))} (h : Pl n m rs js) (hn : n ≤ 30) (hm : m ≤ 36) : Shp rs js := by
  have rl := h.rl
  have jl := h.jl
  refine ⟨⟨by omega, by omega, fun w hw => ⟨(h.r w hw).1, by have := (h.r w hw).2.2; omega⟩, fun q hq => ⟨by rw [(h.j q hq).len]; omega, fun w hw => ⟨((h.j q hq).low w hw).1, by have := ((h.j q hq).low w hw).2; omega⟩⟩, ?_⟩, h.gr.shw, h.gj.shw⟩
  have a := flat_len_le (l := rs) (b := 40) fun w hw => (h.r w hw).2.2
  have b := flat_len_le (l := js.map List.flatten) (b := 40) fun w hw => by
    obtain ⟨q, hq, rfl⟩ := List.mem_map.mp hw
    have := flat_len_le (l := q) (b := 10) fun w hw => ((h.j q hq).low w hw).2
    rw [(h.j q hq).len] at this
    exact this
  rw [List.length_map] at b
  unfold wholeL
  rw [List.length_append]
  omega
end DL
/-! FM15: boxes with more, boxes made of plans. -/
namespace DL
open PySem PySem.Spec L2
theorem oIx_live {n : Nat} {ts : List T} {i : Int} {t : T} {μ : Mu} {P : KT} (h : μ[n]? = some (.lst ts)) (e : atI ts i = some t) (hp : P t μ) : oIx (.loc n) (.dat (.int i)) μ P := by
  refine .inl ?_
  show (match rdQ μ (.loc n), nm μ (.dat (.int i)) with
    | some ts, .dat (.int i) => ∃ t, atI ts i = some t ∧ P t μ
    | _, _ => False)
  rw [rdQ_live h]
  exact ⟨t, e, hp⟩
theorem oIx_tupl {n : Nat} {ts : List T} {i : Int} {t : T} {μ : Mu} {P : KT} (h : μ[n]? = some (.tup ts)) (e : atI ts i = some t) (hp : P t μ) : oIx (.loc n) (.dat (.int i)) μ P := by
  refine .inl ?_
  show (match rdQ μ (.loc n), nm μ (.dat (.int i)) with
    | some ts, .dat (.int i) => ∃ t, atI ts i = some t ∧ P t μ
    | _, _ => False)
  have e2 : rdQ μ (.loc n) = some ts := by simp [rdQ, rdL, rdT, h]
  rw [e2]
  exact ⟨t, e, hp⟩
theorem Pl.mono {n m n' m' : Nat} {rs : List (List Nat)} {js : List (List (List Nat))} (h : Pl n m rs js) (hn : n ≤ n') (hm : m ≤ m') : Pl n' m' rs js := ⟨h.r, h.j, Nat.le_trans h.rl hn, Nat.le_trans h.jl hm⟩
end DL
/-! FM16: boxes without something, boxes put together. -/
namespace DL
open PySem PySem.Spec L2
theorem cutT_lo (xs : List T) {i : Int} (h0 : 0 ≤ i) : cutT xs none (some i) = xs.take i.toNat := by
  unfold cutT
  rw [HT.sIx_none, sIx_pos h0, List.drop_zero, Nat.sub_zero]
  by_cases h : i.toNat ≤ xs.length
  · rw [Nat.min_eq_left h]
  · rw [Nat.min_eq_right (by omega), List.take_of_length_le (Nat.le_refl _), List.take_of_length_le (by omega)]
theorem cutT_hi (xs : List T) {i : Int} (h0 : 0 ≤ i) : cutT xs (some i) none = xs.drop i.toNat := by
  unfold cutT
  rw [HT.sIx_none, sIx_pos h0]
  by_cases h : i.toNat ≤ xs.length
  · rw [Nat.min_eq_left h, List.take_of_length_le (by simp)]
  · rw [Nat.min_eq_right (by omega), Nat.sub_self, List.take_zero, List.drop_eq_nil_of_le (by omega)]
end DL
/-! FM17: splices made by the program; texts in lists. -/
namespace DL
open PySem PySem.Spec L2
theorem dsi_dat (xs : List Nat) : dsi xs = (xs.map fun (p : Nat) => PyData.int (p : Int)).map T.dat := by simp [dsi]
def inI (x : Int) (xs : List Nat) : Bool := xs.any fun p => decide ((p : Int) = x)
/-! ### a text in a list of texts -/
end DL
/-! FM18: desks. -/
namespace DL
open PySem PySem.Spec L2
abbrev deskO (cE : Nat → Addr) (b l t m : Nat) : O := .ins (cE 21) [(("box" : Str), .loc b), (("lying" : Str), .loc l), (("trees" : Str), .loc t), (("marks" : Str), .loc m)]
abbrev DSt (cE : Nat → Addr) (rs : List (List Nat)) (js : List (List (List Nat))) (ws : List (List Nat)) (ps ms : List PyData) : Mu := [deskO cE 1 2 3 4, boxO cE rs js, .lst (dts ws), .lst (ps.map .dat), .lst (ms.map .dat)]
theorem ren_dtsO (f : Nat → Nat) (ws : List (List Nat)) : O.ren f (.lst (dts ws)) = .lst (dts ws) := by
  rw [← txs_dts]
  show O.lst _ = _
  rw [ren_dats]
theorem ren_datsO (f : Nat → Nat) (ps : List PyData) : O.ren f (.lst (ps.map .dat)) = .lst (ps.map .dat) := by
  show O.lst _ = _
  rw [ren_dats]
theorem ren_desk (f : Nat → Nat) (cE : Nat → Addr) (b l t m : Nat) : O.ren f (deskO cE b l t m) = deskO cE (f b) (f l) (f t) (f m) := rfl
theorem DSt.ren {cE : Nat → Addr} {rs : List (List Nat)} {js : List (List (List Nat))} {ws : List (List Nat)} {ps ms : List PyData} (f : Nat → Nat) (hf : ∀ i, i < 5 → f i = i) : ∀ o ∈ DSt cE rs js ws ps ms, O.ren f o = o := fun o m => by
  have m : o = deskO cE 1 2 3 4 ∨ o = boxO cE rs js ∨ o = .lst (dts ws) ∨ o = .lst (ps.map .dat) ∨ o = .lst (ms.map .dat) := by simpa using m
  rcases m with rfl | rfl | rfl | rfl | rfl
  · rw [ren_desk, hf 1 (by decide), hf 2 (by decide), hf 3 (by decide), hf 4 (by decide)]
  · rfl
  · exact ren_dtsO f ws
  · exact ren_datsO f ps
  · exact ren_datsO f ms
theorem atI_nat {α : Type} {xs : List α} {i : Nat} {x : α} (h : xs[i]? = some x) : atI xs (i : Int) = some x := by
  have l := (List.getElem?_eq_some_iff.mp h).1
  unfold atI ixN
  rw [if_pos (by omega), if_pos (by omega)]
  exact h
theorem dat_at {ps : List PyData} {i : Nat} {p : PyData} (h : ps[i]? = some p) : (ps.map T.dat)[i]? = some (.dat p) := by
  rw [List.getElem?_map, h]
  rfl
/-! ### a desk is made -/
end DL
/-! FM19: places that belong together; benches. -/
namespace DL
open PySem PySem.Spec L2
/-! ### families of places -/
/-- what stands at the places refers to these places alone -/
def Cl (n : Nat) (μ0 : Mu) : Prop := ∀ o ∈ μ0, ∀ f g : Nat → Nat, (∀ i, i < n → f i = g i) → O.ren f o = O.ren g o
structure Fam (V : List Nat) (μ μ0 : Mu) : Prop where
  nd : V.Nodup
  len : V.length = μ0.length
  eq : ∀ (k i : Nat) (o : O), V[k]? = some i → μ0[k]? = some o → μ[i]? = some (o.ren fun j => V.getD j 0)
  cl : Cl μ0.length μ0
theorem fV_at {V : List Nat} {μ : Mu} {j : Nat} (h : j < V.length) : fV V μ j = V.getD j 0 := by
  unfold fV
  rw [List.getD_eq_getElem?_getD, List.getD_eq_getElem?_getD, List.getElem?_eq_getElem h]
  rfl
theorem Fam.lt {V : List Nat} {μ μ0 : Mu} (a : Fam V μ μ0) : ∀ i ∈ V, i < μ.length := fun i m => by
  obtain ⟨k, hk, e⟩ := List.mem_iff_getElem.mp m
  have l := a.len
  have hk2 : k < μ0.length := by omega
  have h0 := a.eq k i μ0[k] (by rw [← e]; exact List.getElem?_eq_getElem hk) (List.getElem?_eq_getElem hk2)
  exact (List.getElem?_eq_some_iff.mp h0).1
theorem Fam.view {V : List Nat} {μ μ0 : Mu} (a : Fam V μ μ0) : View V μ μ0 := by
  refine ⟨a.nd, a.lt, List.ext_getElem? fun k => ?_⟩
  have l := a.len
  rw [List.getElem?_map, List.getElem?_map]
  by_cases hk : k < V.length
  · have e1 := List.getElem?_eq_getElem hk
    have e2 : μ0[k]? = some μ0[k] := List.getElem?_eq_getElem (by omega)
    have h := a.eq k _ _ e1 e2
    rw [e1, e2]
    have e3 := a.cl μ0[k] (List.getElem_mem _) (fun j => V.getD j 0) (fV V μ) fun i hi => (fV_at (by omega)).symm
    show some (μ[V[k]]?) = some (some _)
    rw [h, e3]
  · rw [List.getElem?_eq_none (by omega), List.getElem?_eq_none (by omega)]
    rfl
/-! ### benches -/
abbrev benchO (a b c d : Nat) : O := .lst [.loc a, .loc b, .loc c, .loc d]
abbrev BSt (k : Nat) (ws : List (List Nat)) (ps : List PyData) (ss : List Nat) (xs : List PyData) : Mu := [benchO (k + 1) (k + 2) (k + 3) (k + 4), .lst (dts ws), .lst (ps.map .dat), .lst (dsi ss), .lst (xs.map .dat)]
theorem ren_dsiO (f : Nat → Nat) (ss : List Nat) : O.ren f (.lst (dsi ss)) = .lst (dsi ss) := by
  rw [dsi_dat]
  show O.lst _ = _
  rw [ren_dats]
theorem BSt.ren {k : Nat} {ws : List (List Nat)} {ps xs : List PyData} {ss : List Nat} (f : Nat → Nat) : (BSt k ws ps ss xs).map (O.ren f) = [benchO (f (k + 1)) (f (k + 2)) (f (k + 3)) (f (k + 4)), .lst (dts ws), .lst (ps.map .dat), .lst (dsi ss), .lst (xs.map .dat)] := by
  show [O.ren f (benchO _ _ _ _), O.ren f (.lst (dts ws)), O.ren f (.lst (ps.map .dat)), O.ren f (.lst (dsi ss)), O.ren f (.lst (xs.map .dat))] = _
  rw [ren_dtsO, ren_datsO, ren_dsiO, ren_datsO]
  rfl
theorem BSt.cl {k n : Nat} {ws : List (List Nat)} {ps xs : List PyData} {ss : List Nat} (hn : k + 5 ≤ n) : Cl n (BSt k ws ps ss xs) := fun o m f g h => by
  have m : o = benchO (k + 1) (k + 2) (k + 3) (k + 4) ∨ o = .lst (dts ws) ∨ o = .lst (ps.map .dat) ∨ o = .lst (dsi ss) ∨ o = .lst (xs.map .dat) := by simpa using m
  rcases m with rfl | rfl | rfl | rfl | rfl
  · show benchO _ _ _ _ = benchO _ _ _ _
    rw [h (k + 1) (by omega), h (k + 2) (by omega), h (k + 3) (by omega), h (k + 4) (by omega)]
  · rw [ren_dtsO, ren_dtsO]
  · rw [ren_datsO, ren_datsO]
  · rw [ren_dsiO, ren_dsiO]
  · rw [ren_datsO, ren_datsO]
end DL
/-! FM20: calls on a bench. -/
namespace DL
open PySem PySem.Spec L2
theorem dsi_at {ss : List Nat} {i s : Nat} (h : ss[i]? = some s) : (dsi ss)[i]? = some (.dat (.int (s : Nat))) := by
  rw [dsi, List.getElem?_map, h]
  rfl
/-! ### what is wrong with a call -/
theorem oIx_dl {ds : List PyData} {i : Nat} {d : PyData} {μ : Mu} {P : KT} (h : ds[i]? = some d) (hp : P (.dat d) μ) : oIx (.dat (.list ds)) (.dat (.int (i : Nat))) μ P := by
  refine .inl ?_
  show ∃ t, atI (ds.map T.dat) (i : Int) = some t ∧ P t μ
  exact ⟨_, atI_nat (dat_at h), hp⟩
end DL
/-! FM21: desks and benches side by side. -/
namespace DL
open PySem PySem.Spec L2
theorem DSt.cl {cE : Nat → Addr} {rs : List (List Nat)} {js : List (List (List Nat))} {ws : List (List Nat)} {ps ms : List PyData} {n : Nat} (hn : 5 ≤ n) : Cl n (DSt cE rs js ws ps ms) := fun o m f g h => by
  have m : o = deskO cE 1 2 3 4 ∨ o = boxO cE rs js ∨ o = .lst (dts ws) ∨ o = .lst (ps.map .dat) ∨ o = .lst (ms.map .dat) := by simpa using m
  rcases m with rfl | rfl | rfl | rfl | rfl
  · rw [ren_desk, ren_desk, h 1 (by omega), h 2 (by omega), h 3 (by omega), h 4 (by omega)]
  · rfl
  · rw [ren_dtsO, ren_dtsO]
  · rw [ren_datsO, ren_datsO]
  · rw [ren_datsO, ren_datsO]
end DL
/-! FM22: deeds drawn. -/
namespace DL
open PySem PySem.Spec L2
theorem toDs_dsi (k : Nat) (μ : Mu) (ys : List Nat) : toDs k μ (dsi ys) = some (ys.map fun (p : Nat) => PyData.int (p : Int)) := by
  rw [dsi_dat]
  exact toDs_dats _ _ _
theorem dsi_mem {ys : List Nat} {t : T} (h : t ∈ dsi ys) : ∃ y ∈ ys, t = .dat (.int (y : Nat)) := by
  obtain ⟨y, m, rfl⟩ := List.mem_map.mp h
  exact ⟨y, m, rfl⟩
end DL
/-! TB2: the least table: what it is, and that there is but one. -/
namespace DL
namespace Tb
/-! ### one table: what the search finds -/
section
variable {m : Nat} {R : Rows} {E cl : List Nat}
theorem row_at (g : Gt m R) {s : Nat} (hs : s < R.length) : (R.getD s []).length = m ∧ (∀ x ∈ R.getD s [], x < R.length) ∧ ∀ a, a < m → (R.getD s [])[a]? = some (stp R s a) := by
  have e : R.getD s [] = R[s] := by rw [List.getD_eq_getElem?_getD, List.getElem?_eq_getElem hs]; rfl
  have l := g.w R[s] (List.getElem_mem hs)
  refine ⟨by rw [e, l], by rw [e]; exact g.lt _ (List.getElem_mem hs), fun a ha => ?_⟩
  unfold stp
  rw [e, List.getD_eq_getElem?_getD, List.getElem?_eq_getElem (by omega)]
  rfl
end
/-! ### two tables that hold the same texts -/
section
variable {Q : Nat → Nat → Prop}
structure PR (Q : Nat → Nat → Prop) (o o' : List Nat) : Prop where
  len : o.length = o'.length
  q : ∀ (i c c' : Nat), o[i]? = some c → o'[i]? = some c' → Q c c'
theorem PR.mem (bu : ∀ c c' d d', Q c c' → Q d d' → (c = d ↔ c' = d')) {o o' : List Nat} (h : PR Q o o') {c c' : Nat} (k : Q c c') : c ∈ o ↔ c' ∈ o' := by
  constructor
  · intro m
    obtain ⟨i, hi⟩ := List.mem_iff_getElem?.mp m
    have l := (List.getElem?_eq_some_iff.mp hi).1
    have e := List.getElem?_eq_getElem (l := o') (i := i) (by have := h.len; omega)
    have := (bu _ _ _ _ (h.q i _ _ hi e) k).mp rfl
    rw [← this]
    exact List.getElem_mem _
  · intro m
    obtain ⟨i, hi⟩ := List.mem_iff_getElem?.mp m
    have l := (List.getElem?_eq_some_iff.mp hi).1
    have e := List.getElem?_eq_getElem (l := o) (i := i) (by have := h.len; omega)
    have := (bu _ _ _ _ (h.q i _ _ e hi) k).mpr rfl
    rw [← this]
    exact List.getElem_mem _
theorem PR.ix (bu : ∀ c c' d d', Q c c' → Q d d' → (c = d ↔ c' = d')) : ∀ {o o' : List Nat}, PR Q o o' → ∀ {c c' : Nat}, Q c c' → Tb.ix o c = Tb.ix o' c'
  | [], [], _, _, _, _ => rfl
  | [], _ :: _, h, _, _, _ => by have := h.len; simp at this
  | _ :: _, [], h, _, _, _ => by have := h.len; simp at this
  | x :: o, y :: o', h, c, c', k => by
    have h1 : Q x y := h.q 0 x y rfl rfl
    have h2 : PR Q o o' := ⟨by simpa using h.len, fun i c c' a b => h.q (i + 1) c c' (by simpa using a) (by simpa using b)⟩
    have e := bu _ _ _ _ h1 k
    unfold Tb.ix
    by_cases z : x = c
    · rw [if_pos z, if_pos (e.mp z)]
    · rw [if_neg z, if_neg (fun w => z (e.mpr w)), PR.ix bu h2 k]
theorem PR.snoc {o o' : List Nat} (h : PR Q o o') {c c' : Nat} (k : Q c c') : PR Q (o ++ [c]) (o' ++ [c']) := by
  refine ⟨by simp [h.len], fun i d d' a b => ?_⟩
  have l := (List.getElem?_eq_some_iff.mp a).1
  by_cases z : i < o.length
  · rw [List.getElem?_append_left z] at a
    rw [List.getElem?_append_left (by have := h.len; omega)] at b
    exact h.q i d d' a b
  · have e : i = o.length := by simp at l; omega
    subst e
    rw [List.getElem?_append_right (Nat.le_refl _)] at a
    rw [List.getElem?_append_right (by have := h.len; omega)] at b
    have hl := h.len
    simp [hl] at a b
    subst a b
    exact k
end
end Tb
end DL
/-! TB3: tables in a store; calls with lent tables. -/
namespace DL
open PySem PySem.Spec L2
open Tb (Rows Gt Lq)
def inz (xs : List Nat) : List PyData := xs.map fun (p : Nat) => PyData.int (p : Int)
def rwD (R : Rows) : List PyData := R.map fun r => PyData.list (inz r)
abbrev tabD (L : List Nat) (R : Rows) (E : List Nat) : PyData := .tuple [.str (tz L), .list (rwD R), .list (inz E)]
@[simp] theorem inz_dsi (xs : List Nat) : (inz xs).map T.dat = dsi xs := by simp [inz, dsi]
@[simp] theorem inz_len (xs : List Nat) : (inz xs).length = xs.length := by simp [inz]
@[simp] theorem rwD_len (R : Rows) : (rwD R).length = R.length := by simp [rwD]
/-! ### what is lent -/
theorem mask_nil (μ : Mu) : mask [] μ = μ := by
  unfold mask
  apply List.ext_getElem?
  intro i
  rw [List.getElem?_mapIdx]
  cases μ[i]? with
  | none => rfl
  | some o => simp
theorem toD_nm {k : Nat} {μ : Mu} {t : T} {d : PyData} (h : toD k μ t = some d) : toD k μ (nm μ t) = some d := by
  cases t with
  | dat e => exact h
  | exc a b n => exact h
  | fn f p => exact h
  | loc n =>
    show toD k μ (match μ[n]? with
      | some (.frz d) => T.dat d
      | _ => T.loc n) = some d
    split
    · rename_i e he
      cases k with
      | zero => simp [toD] at h
      | succ k =>
        rw [toD, he] at h
        rw [toD_dat]
        exact h
    · exact h
theorem ba_dat {V : List Nat} {μ : Mu} {t : T} {d : PyData} (h : toD 8 (mask V μ) t = some d) (hn : nm μ t = t) : BA V μ (nm μ t) (.dat d) := .inr ⟨8, d, rfl, by rw [hn]; exact h⟩
theorem ba_nil {μ : Mu} {t : T} {d : PyData} (h : toD 8 μ t = some d) : BA [] μ (nm μ t) (.dat d) := .inr ⟨8, d, rfl, by rw [mask_nil]; exact toD_nm h⟩
theorem ba_same {V : List Nat} {μ : Mu} {t t0 : T} (h : nm μ t = t0.ren (fV V μ)) : BA V μ (nm μ t) t0 := .inl h
theorem bas_nil {μ : Mu} : ∀ {ts : List T} {ds : List PyData}, toDs 8 μ ts = some ds → Paired (BA [] μ) (ts.map (nm μ)) (ds.map .dat)
  | [], ds, h => by
    simp [toDs] at h
    subst h
    exact .nil
  | t :: ts, ds, h => by
    rw [toDs] at h
    split at h
    · rename_i d ds' h1 h2
      cases h
      exact .cons (ba_nil h1) (bas_nil h2)
    · cases h
/-- what a lent call hands back -/
def LentK (V : List Nat) (μ : Mu) (P PT : KT) : Prop := ∀ t μ', AtT t → (∀ o ∈ μ', AtO o) → P (t.ren (gV V μ)) (setAll μ V (μ'.map (O.ren (gV V μ)))) → PT t μ'
theorem callLV {V : List Nat} {args args0 : List T} {μ μ0 : Mu} {dsp : DSp} {P : KT} {PX : KX} (vw : View V μ μ0) (ba : Paired (BA V μ) (args.map (nm μ)) args0) (hd : ∀ (PT : KT) (PX' : KX), LentK V μ P PT → (∀ C, LentK V μ (PX C) (PX' C)) → dsp args0 μ0 PT PX') : callD dsp args μ P PX :=
  ⟨μ, .refl μ, V, args0, μ0, vw, .inr ⟨ba, hd _ _ (fun t μ' h1 h2 h3 => ⟨⟨h1, h2⟩, h3⟩) fun C t μ' h1 h2 h3 => ⟨⟨h1, h2⟩, h3⟩⟩⟩
theorem view_nil (μ : Mu) : View [] μ [] := ⟨List.nodup_nil, fun i hi => (by simp at hi), rfl⟩
/-- all is lent -/
theorem callL0 {args : List T} {ds : List PyData} {μ : Mu} {dsp : DSp} {P : KT} {PX : KX} (h : toDs 8 μ args = some ds) (hd : ∀ (PT : KT) (PX' : KX), (∀ t μ', AtT t → (∀ o ∈ μ', AtO o) → P (t.ren (gV [] μ)) (μ ++ μ'.map (O.ren (gV [] μ))) → PT t μ') → (∀ C t μ', AtT t → (∀ o ∈ μ', AtO o) → PX C (t.ren (gV [] μ)) (μ ++ μ'.map (O.ren (gV [] μ))) → PX' C t μ') → dsp (ds.map .dat) [] PT PX') : callD dsp args μ P PX :=
  callLV (V := []) (view_nil μ) (bas_nil h) fun PT PX' k1 k2 => hd PT PX' (fun t μ' a b c => k1 t μ' a b (by simpa only [setAll] using c)) fun C t μ' a b c => k2 C t μ' a b (by simpa only [setAll] using c)
theorem gV_nil (μ : Mu) (k : Nat) : gV [] μ k = μ.length + k := by simp [gV]
/-! ### a table's places -/
abbrev tabM (k : Nat) (L : List Nat) (R : Rows) (E : List Nat) : Mu := [.tup [.dat (.str (tz L)), .loc (k + 1), .loc (k + 2)], .lst ((List.range R.length).map fun i => .loc (k + 3 + i)), .lst (dsi E)] ++ R.map fun r => .lst (dsi r)
theorem tabM_len (k : Nat) (L : List Nat) (R : Rows) (E : List Nat) : (tabM k L R E).length = R.length + 3 := by simp
/-- a table at the places t, r, e and those of its rows -/
structure TAt (μ : Mu) (t r e : Nat) (ls : List Nat) (L : List Nat) (R : Rows) (E : List Nat) : Prop where
  t : μ[t]? = some (.tup [.dat (.str (tz L)), .loc r, .loc e])
  r : μ[r]? = some (.lst (ls.map .loc))
  e : μ[e]? = some (.lst (dsi E))
  len : ls.length = R.length
  row : ∀ (i l : Nat) (q : List Nat), ls[i]? = some l → R[i]? = some q → μ[l]? = some (.lst (dsi q))
theorem toDs_rows {k : Nat} {μ : Mu} : ∀ {ls : List Nat} {R : Rows}, ls.length = R.length → (∀ (i l : Nat) (q : List Nat), ls[i]? = some l → R[i]? = some q → μ[l]? = some (.lst (dsi q))) → toDs (k + 1) μ (ls.map .loc) = some (rwD R)
  | [], [], _, _ => by simp [toDs, rwD]
  | [], _ :: _, h, _ => by simp at h
  | _ :: _, [], h, _ => by simp at h
  | l :: ls, q :: R, h, hr => by
    have ih := toDs_rows (k := k) (μ := μ) (ls := ls) (R := R) (by simpa using h) fun i l q a b => hr (i + 1) l q (by simpa using a) (by simpa using b)
    have h0 : toD (k + 1) μ (.loc l) = some (.list (inz q)) := toD_lst (hr 0 l q rfl rfl) (toDs_dsi _ _ _)
    rw [List.map_cons, toDs, h0, ih]
    rfl
theorem TAt.toD {μ : Mu} {t r e : Nat} {ls L E : List Nat} {R : Rows} (h : TAt μ t r e ls L R E) {k : Nat} : toD (k + 3) μ (.loc t) = some (tabD L R E) := by
  refine toD_tup h.t ?_
  have h1 : DL.toD (k + 2) μ (.loc r) = some (.list (rwD R)) := toD_lst h.r (toDs_rows h.len h.row)
  have h2 : DL.toD (k + 2) μ (.loc e) = some (.list (inz E)) := toD_lst h.e (toDs_dsi _ _ _)
  simp only [toDs, toD_dat, h1, h2]
theorem TAt.kp {μ μ' : Mu} {t r e : Nat} {ls L E : List Nat} {R : Rows} (h : TAt μ t r e ls L R E) (k : ∀ n o, n = t ∨ n = r ∨ n = e ∨ n ∈ ls → μ[n]? = some o → μ'[n]? = some o) : TAt μ' t r e ls L R E :=
  ⟨k _ _ (.inl rfl) h.t, k _ _ (.inr (.inl rfl)) h.r, k _ _ (.inr (.inr (.inl rfl))) h.e, h.len, fun i l q a b => k _ _ (.inr (.inr (.inr (List.mem_of_getElem? a)))) (h.row i l q a b)⟩
theorem TAt.app {μ : Mu} {t r e : Nat} {ls L E : List Nat} {R : Rows} (h : TAt μ t r e ls L R E) (g : Mu) : TAt (μ ++ g) t r e ls L R E := h.kp fun n o _ q => by
  rw [List.getElem?_append_left (List.getElem?_eq_some_iff.mp q).1]
  exact q
/-- a block of places -/
abbrev bls (k n : Nat) : List Nat := (List.range n).map fun i => k + 3 + i
abbrev TB (μ : Mu) (k : Nat) (L : List Nat) (R : Rows) (E : List Nat) : Prop := TAt μ k (k + 1) (k + 2) (bls k R.length) L R E
theorem TB.of {μ : Mu} {k : Nat} {L E : List Nat} {R : Rows} (h : ∀ i o, (tabM k L R E)[i]? = some o → μ[k + i]? = some o) : TB μ k L R E :=
  ⟨h 0 _ rfl, by
    rw [h 1 _ rfl, List.map_map]
    rfl, h 2 _ rfl, by simp, fun i l q a b => by
    have li : i < R.length := (List.getElem?_eq_some_iff.mp b).1
    have el : l = k + 3 + i := by simpa [li] using a.symm
    subst el
    have := h (3 + i) (.lst (dsi q)) (by rw [List.getElem?_append_right (by simp)]; simp [b])
    rw [show k + 3 + i = k + (3 + i) by omega]
    exact this⟩
theorem TB.new (μ : Mu) (L : List Nat) (R : Rows) (E : List Nat) (g : Mu := []) : TB (μ ++ tabM μ.length L R E ++ g) μ.length L R E := TB.of fun i o h => by
  rw [List.append_assoc, List.getElem?_append_right (by omega), Nat.add_sub_cancel_left, List.getElem?_append_left (List.getElem?_eq_some_iff.mp h).1]
  exact h
theorem TB.kp {μ μ' : Mu} {k : Nat} {L E : List Nat} {R : Rows} (h : TB μ k L R E) (q : ∀ n o, k ≤ n → n < k + 3 + R.length → μ[n]? = some o → μ'[n]? = some o) : TB μ' k L R E := TAt.kp h fun n o m e => by
  refine q n o ?_ ?_ e
  · rcases m with rfl | rfl | rfl | m
    · omega
    · omega
    · omega
    · simp at m
      omega
  · rcases m with rfl | rfl | rfl | m
    · omega
    · omega
    · omega
    · simp at m
      omega
theorem TB.set {μ : Mu} {k : Nat} {L E : List Nat} {R : Rows} (h : TB μ k L R E) {n : Nat} {o : O} (hn : n < k ∨ k + 3 + R.length ≤ n) : TB (μ.set n o) k L R E := TB.kp h fun m u h1 h2 e => by
  rw [List.getElem?_set_ne (by omega)]
  exact e
theorem TB.lt {μ : Mu} {k : Nat} {L E : List Nat} {R : Rows} (h : TB μ k L R E) : k + 2 < μ.length := (List.getElem?_eq_some_iff.mp h.e).1
theorem bl_nd (k n : Nat) : (k :: (k + 1) :: (k + 2) :: bls k n).Nodup := by
  have h : ∀ x ∈ bls k n, k + 3 ≤ x := fun x m => by
    simp at m
    omega
  simp only [List.nodup_cons, List.mem_cons, not_or]
  refine ⟨⟨by omega, by omega, fun m => by have := h _ m; omega⟩, ⟨by omega, fun m => by have := h _ m; omega⟩, fun m => (by have := h _ m; omega), ?_⟩
  refine List.pairwise_map.mpr (List.nodup_range.imp fun {a b} z e => z (by omega))
theorem at_tab (k : Nat) (L : List Nat) (R : Rows) (E : List Nat) : ∀ o ∈ tabM k L R E, AtO o := fun o m => by
  have hd : ∀ xs : List Nat, AtO (.lst (dsi xs)) := fun xs t mt => by
    obtain ⟨y, _, rfl⟩ := dsi_mem mt
    trivial
  rcases List.mem_append.mp m with m | m
  · rcases List.mem_cons.mp m with rfl | m
    · intro t mt
      simp at mt
      rcases mt with rfl | rfl | rfl <;> trivial
    rcases List.mem_cons.mp m with rfl | m
    · intro t mt
      obtain ⟨i, _, rfl⟩ := List.mem_map.mp mt
      trivial
    · have : o = .lst (dsi E) := by simpa using m
      rw [this]
      exact hd E
  · obtain ⟨r, _, rfl⟩ := List.mem_map.mp m
    exact hd r
theorem tab_ren (f : Nat → Nat) (k b : Nat) (hf : ∀ i, f (k + i) = b + i) (L : List Nat) (R : Rows) (E : List Nat) : (tabM k L R E).map (O.ren f) = tabM b L R E := by
  rw [List.map_append]
  congr 1
  · show [O.ren f _, O.ren f _, O.ren f (.lst (dsi E))] = _
    rw [dsi_grd]
    have h1 := hf 1
    have h2 := hf 2
    simp only [O.ren, List.map_cons, List.map_nil, T.ren, h1, h2, List.map_map]
    congr 2
    congr 1
    apply List.map_congr_left
    intro i _
    show T.loc (f (k + 3 + i)) = _
    rw [Nat.add_assoc, hf]
    show _ = T.loc (b + 3 + i)
    rw [Nat.add_assoc]
  · rw [List.map_map]
    apply List.map_congr_left
    intro r _
    exact dsi_grd r f
theorem gd_ints {xs : List Nat} {n : Nat} (h : ∀ x ∈ xs, x < 10 ^ 9) (hl : xs.length ≤ n) : GdL 0 n (inz xs) := by
  have := GdL.all (k := 0) (b := 0) (f := fun (p : Nat) => PyData.int (p : Int)) (l := xs) (n := n) (fun x m => Gd.int (by have := h x m; omega)) hl
  simpa [inz] using this
/-- a table that can be told and compared -/
structure Tg (L : List Nat) (R : Rows) (E : List Nat) : Prop where
  l : Sgn L
  ll : L.length ≤ 30
  rl : R.length ≤ 61
  w : ∀ r ∈ R, r.length ≤ 40 ∧ ∀ x ∈ r, x < 10 ^ 9
  el : E.length ≤ 61
  e : ∀ x ∈ E, x < 10 ^ 9
theorem Tg.gr {L E : List Nat} {R : Rows} (h : Tg L R E) : Gd 2 2562 (.list (rwD R)) := Gd.lst (n := 2) (GdL.all (k := 1) (b := 41) (n := 61) (fun r m => Gd.mono (Gd.lst (n := 1) (gd_ints (n := 40) (h.w r m).2 (h.w r m).1)) (by omega) (by omega)) h.rl)
theorem Tg.gd {L E : List Nat} {R : Rows} (h : Tg L R E) : Gd 4 3000 (tabD L R E) := by
  have g1 : Gd 0 30 (.str (tz L)) := Gd.str h.l h.ll
  have g2 : Gd 2 2562 (.list (rwD R)) := Gd.lst (n := 2) (GdL.all (k := 1) (b := 41) (n := 61) (fun r m => Gd.mono (Gd.lst (n := 1) (gd_ints (n := 40) (h.w r m).2 (h.w r m).1)) (by omega) (by omega)) h.rl)
  have g3 : Gd 1 61 (.list (inz E)) := Gd.lst (n := 1) (gd_ints h.e h.el)
  exact Gd.mono (Gd.tup (n := 3) (GdL.cons (b := 30) (c := 2626) (n := 2657) (g1.mono (by omega) (by omega)) (GdL.cons (b := 2562) (c := 63) (n := 2626) g2 (GdL.cons (b := 61) (c := 0) (n := 63) (g3.mono (by omega) (by omega)) (GdL.nil 2))))) (by omega) (by omega)
/-- a table handed back behind some first places -/
theorem tab_viewG {n0 : Nat} {pre : Mu} {μ : Mu} {t r e : Nat} {ls L E : List Nat} {R : Rows} (hl : pre.length = n0) (hp : ∀ (i : Nat) (o : O), pre[i]? = some o → μ[i]? = some (O.ren (fV (List.range n0 ++ t :: r :: e :: ls) μ) o)) (h : TAt μ t r e ls L R E) (nd : (t :: r :: e :: ls).Nodup) (ge : ∀ x ∈ t :: r :: e :: ls, n0 ≤ x) : View (List.range n0 ++ t :: r :: e :: ls) μ (pre ++ tabM n0 L R E) := by
  obtain ⟨W, hW⟩ : ∃ W, W = t :: r :: e :: ls := ⟨_, rfl⟩
  have lw : W.length = R.length + 3 := by rw [hW]; simp [h.len]
  have getW : ∀ i, fV (List.range n0 ++ W) μ (n0 + i) = W.getD i μ.length := fun i => by
    unfold fV
    rw [List.getD_eq_getElem?_getD, List.getD_eq_getElem?_getD, List.getElem?_append_right (by simp), List.length_range, Nat.add_sub_cancel_left]
  have at0 : W[0]? = some t := by rw [hW]; rfl
  have at1 : W[1]? = some r := by rw [hW]; rfl
  have at2 : W[2]? = some e := by rw [hW]; rfl
  have at3 : ∀ i, W[3 + i]? = ls[i]? := fun i => by rw [hW, Nat.add_comm]; rfl
  have gd : ∀ {i x : Nat}, W[i]? = some x → W.getD i μ.length = x := fun h => getD_of h
  -- each place of W shows the block's object, renamed
  have key : ∀ (i x : Nat) (o : O), W[i]? = some x → (tabM n0 L R E)[i]? = some o → μ[x]? = some (o.ren (fV (List.range n0 ++ W) μ)) := fun i x o hx ho => by
    match i with
    | 0 =>
      rw [at0] at hx
      cases hx
      have : o = .tup [.dat (.str (tz L)), .loc (n0 + 1), .loc (n0 + 2)] := by simpa using ho.symm
      rw [this, h.t]
      simp only [O.ren, List.map_cons, List.map_nil, T.ren, getW, gd at1, gd at2]
    | 1 =>
      rw [at1] at hx
      cases hx
      have : o = .lst ((List.range R.length).map fun i => .loc (n0 + 3 + i)) := by simpa using ho.symm
      rw [this, h.r]
      simp only [O.ren, List.map_map]
      congr 2
      apply List.ext_getElem?
      intro j
      rw [List.getElem?_map, List.getElem?_map]
      by_cases hj : j < R.length
      · have hj' : j < ls.length := by rw [h.len]; exact hj
        rw [List.getElem?_range hj, List.getElem?_eq_getElem hj']
        have : W.getD (3 + j) μ.length = ls[j] := gd (by rw [at3, List.getElem?_eq_getElem hj'])
        simp only [Option.map_some, Function.comp, T.ren, Nat.add_assoc, getW, this]
      · rw [List.getElem?_eq_none (by rw [h.len]; omega), List.getElem?_eq_none (by simpa using hj)]
        rfl
    | 2 =>
      rw [at2] at hx
      cases hx
      have : o = .lst (dsi E) := by simpa using ho.symm
      rw [this, h.e, dsi_grd]
    | j + 3 =>
      rw [Nat.add_comm, at3] at hx
      rw [List.getElem?_append_right (by simp)] at ho
      have ho : (R.map fun r => O.lst (dsi r))[j]? = some o := by simpa using ho
      rw [List.getElem?_map] at ho
      obtain ⟨q, hq, rfl⟩ := Option.map_eq_some_iff.mp ho
      rw [h.row j x q hx hq, dsi_grd]
  have hlt : ∀ x ∈ W, x < μ.length := fun x m => by
    obtain ⟨i, hi⟩ := List.mem_iff_getElem?.mp m
    have li := (List.getElem?_eq_some_iff.mp hi).1
    have := key i x _ hi (List.getElem?_eq_getElem (by rw [tabM_len]; omega))
    exact (List.getElem?_eq_some_iff.mp this).1
  have hln : n0 ≤ μ.length := by
    have := hlt t (by rw [hW]; simp)
    have := ge t (by simp)
    omega
  rw [← hW]
  refine ⟨?_, fun i hi => ?_, ?_⟩
  · rw [List.nodup_append]
    refine ⟨List.nodup_range, hW ▸ nd, fun a ha b hb e => ?_⟩
    have := List.mem_range.mp ha
    have := ge b (hW ▸ hb)
    omega
  · rcases List.mem_append.mp hi with m | m
    · have := List.mem_range.mp m
      omega
    · exact hlt i m
  · apply List.ext_getElem?
    intro j
    rw [List.getElem?_map, List.getElem?_map]
    by_cases c : j < n0
    · rw [List.getElem?_append_left (by simpa using c), List.getElem?_range c, List.getElem?_append_left (by omega)]
      have hj : pre[j]? = some pre[j] := List.getElem?_eq_getElem (by omega)
      have a := hp j _ hj
      rw [← hW] at a
      rw [hj, Option.map_some, Option.map_some, a]
    · obtain ⟨k, rfl⟩ := Nat.exists_eq_add_of_le (Nat.le_of_not_lt c)
      rw [List.getElem?_append_right (by simp), List.length_range, Nat.add_sub_cancel_left, List.getElem?_append_right (by omega), hl, Nat.add_sub_cancel_left]
      by_cases d : k < W.length
      · rw [List.getElem?_eq_getElem d, List.getElem?_eq_getElem (by rw [tabM_len]; omega), Option.map_some, Option.map_some, key k W[k] _ (List.getElem?_eq_getElem d) (List.getElem?_eq_getElem (by rw [tabM_len]; omega))]
      · rw [List.getElem?_eq_none (by omega), List.getElem?_eq_none (by rw [tabM_len]; omega)]
        rfl
theorem tab_view {n0 : Nat} {pre : Mu} {μ : Mu} {t r e : Nat} {ls L E : List Nat} {R : Rows} (hl : pre.length = n0) (hp : ∀ (i : Nat) (o : O), pre[i]? = some o → μ[i]? = some o ∧ ∀ f, O.ren f o = o) (h : TAt μ t r e ls L R E) (nd : (t :: r :: e :: ls).Nodup) (ge : ∀ x ∈ t :: r :: e :: ls, n0 ≤ x) : View (List.range n0 ++ t :: r :: e :: ls) μ (pre ++ tabM n0 L R E) :=
  tab_viewG hl (fun i o ho => by rw [(hp i o ho).1, (hp i o ho).2]) h nd ge
/-- a table handed back behind some first places -/
theorem end_tab {n0 : Nat} {pre : Mu} {μ : Mu} {t r e : Nat} {ls L E : List Nat} {R : Rows} {P : KT} (hl : pre.length = n0) (hp : ∀ (i : Nat) (o : O), pre[i]? = some o → μ[i]? = some o ∧ ∀ f, O.ren f o = o) (h : TAt μ t r e ls L R E) (nd : (t :: r :: e :: ls).Nodup) (ge : ∀ x ∈ t :: r :: e :: ls, n0 ≤ x) (hP : P (.loc n0) (pre ++ tabM n0 L R E)) : endV n0 P (.loc t) μ := by
  refine ⟨μ, List.range n0 ++ t :: r :: e :: ls, .loc n0, pre ++ tabM n0 L R E, .refl μ, ?_, tab_view hl hp h nd ge, ?_, hP⟩
  · rw [List.take_append_of_le_length (by simp), List.take_of_length_le (by simp)]
  · rw [nm_loc h.t (fun d z => nomatch z)]
    show T.loc t = T.loc (fV (List.range n0 ++ t :: r :: e :: ls) μ n0)
    unfold fV
    rw [List.getD_eq_getElem?_getD, List.getElem?_append_right (by simp), List.length_range, Nat.sub_self]
    rfl
theorem end_tab0 {μ : Mu} {t r e : Nat} {ls L E : List Nat} {R : Rows} {P : KT} (h : TAt μ t r e ls L R E) (nd : (t :: r :: e :: ls).Nodup) (hP : P (.loc 0) (tabM 0 L R E)) : endV 0 P (.loc t) μ := end_tab (pre := []) rfl (fun i o z => by simp at z) h nd (fun _ _ => Nat.zero_le _) hP
theorem end_tab1 {o : O} {μ : Mu} {t r e : Nat} {ls L E : List Nat} {R : Rows} {P : KT} (h0 : μ[0]? = some o) (ho : ∀ f, O.ren f o = o) (h : TAt μ t r e ls L R E) (nd : (0 :: t :: r :: e :: ls).Nodup) (hP : P (.loc 1) (o :: tabM 1 L R E)) : endV 1 P (.loc t) μ := end_tab (pre := [o]) rfl (fun i u z => by
  cases i with
  | zero => cases z; exact ⟨h0, ho⟩
  | succ i => simp at z) h (List.nodup_cons.mp nd).2 (fun x m => by
    rcases Nat.eq_zero_or_pos x with z | z
    · exact absurd (z ▸ m) (List.nodup_cons.mp nd).1
    · exact z) hP
end DL
/-! TB4: the program's least tables. -/
namespace DL
open PySem PySem.Spec L2
open Tb (Rows Gt Lq)
theorem oIxS0 (a b c : PyData) (μ : Mu) (P : KT) : oIx (.dat (.tuple [a, b, c])) (.dat (.int 0)) μ P ↔ P (.dat a) μ := by simp [DE.px, wSeq, wIfS, wB, wOp, wVar, wC, startE, asB, nm_dat, nm, oI, oIx, oIxQ, oIxS, rdQ, rdL, rdT, wAsg, wgName, wgSub, oSetL, wRet, wRetN, wNext, wDrop, wCall, wCB, wPar, wBM, tyT, wSl, wPart, wNoPart, wgTup, wgCons, wgNil, wCons, wNil, cInt, itR, itT, itS, itL, wiR1, wiR2, wiT, wiS, wiL, wLc_eq, wFor_eq, wYes, wipeE, oAdd_int, oEqA_int', oEqA_str', oNeA_str', onL, atI, ixN, CTrue, gGt, gMul, gMod, gPow, gDiv, gSub, gLt, gLe, gGe, gAdd, gNeg, gMax, gMin, gAbs, cI1, cI2, wUn, uI, wIf, wTru, asTru, truT, wNot, wAnd, wOr, wAndV, wOrV, wNotV, wLst, wTup, mkL, mkT, allD, nm]
theorem oIxS1 (a b c : PyData) (μ : Mu) (P : KT) : oIx (.dat (.tuple [a, b, c])) (.dat (.int 1)) μ P ↔ P (.dat b) μ := by simp [DE.px, wSeq, wIfS, wB, wOp, wVar, wC, startE, asB, nm_dat, nm, oI, oIx, oIxQ, oIxS, rdQ, rdL, rdT, wAsg, wgName, wgSub, oSetL, wRet, wRetN, wNext, wDrop, wCall, wCB, wPar, wBM, tyT, wSl, wPart, wNoPart, wgTup, wgCons, wgNil, wCons, wNil, cInt, itR, itT, itS, itL, wiR1, wiR2, wiT, wiS, wiL, wLc_eq, wFor_eq, wYes, wipeE, oAdd_int, oEqA_int', oEqA_str', oNeA_str', onL, atI, ixN, CTrue, gGt, gMul, gMod, gPow, gDiv, gSub, gLt, gLe, gGe, gAdd, gNeg, gMax, gMin, gAbs, cI1, cI2, wUn, uI, wIf, wTru, asTru, truT, wNot, wAnd, wOr, wAndV, wOrV, wNotV, wLst, wTup, mkL, mkT, allD, nm]
theorem oIxS2 (a b c : PyData) (μ : Mu) (P : KT) : oIx (.dat (.tuple [a, b, c])) (.dat (.int 2)) μ P ↔ P (.dat c) μ := by simp [DE.px, wSeq, wIfS, wB, wOp, wVar, wC, startE, asB, nm_dat, nm, oI, oIx, oIxQ, oIxS, rdQ, rdL, rdT, wAsg, wgName, wgSub, oSetL, wRet, wRetN, wNext, wDrop, wCall, wCB, wPar, wBM, tyT, wSl, wPart, wNoPart, wgTup, wgCons, wgNil, wCons, wNil, cInt, itR, itT, itS, itL, wiR1, wiR2, wiT, wiS, wiL, wLc_eq, wFor_eq, wYes, wipeE, oAdd_int, oEqA_int', oEqA_str', oNeA_str', onL, atI, ixN, CTrue, gGt, gMul, gMod, gPow, gDiv, gSub, gLt, gLe, gGe, gAdd, gNeg, gMax, gMin, gAbs, cI1, cI2, wUn, uI, wIf, wTru, asTru, truT, wNot, wAnd, wOr, wAndV, wOrV, wNotV, wLst, wTup, mkL, mkT, allD, nm]
theorem mkT_2 (a b : PyData) (μ : Mu) (P : KT) : mkT [.dat a, .dat b] μ P ↔ P (.dat (.tuple [a, b])) μ := Iff.rfl
theorem wiA_L {w : WpE} {env : En} {μ μ1 : Mu} {P : IT → Mu → Prop} {PX : KX} {t : T} {ts : List T} (hw : ∀ Q : KT, Q t μ1 → w env μ Q PX) (e : rdL μ1 t = some ts) (hp : P (itL t ts) μ1) : wiA w env μ P PX := hw _ (by
  show (match rdL μ1 t with
    | some ts => P (itL t ts) μ1
    | none => _)
  rw [e]
  exact hp)
theorem wiA_S {w : WpE} {env : En} {μ μ1 : Mu} {P : IT → Mu → Prop} {PX : KX} {z : Str} (hw : ∀ Q : KT, Q (.dat (.str z)) μ1 → w env μ Q PX) (hp : P (itS z) μ1) : wiA w env μ P PX := hw _ hp
theorem var_q {i : Nat} {env : En} {μ : Mu} {t : T} {PX : KX} (h : env[i]? = some (some t)) : ∀ Q : KT, Q t μ → wVar i env μ Q PX := fun Q q => by
  unfold wVar
  rw [h]
  exact q
/-- a comprehension over a list, each thing's datum -/
theorem lc_list {t : T} {ts : List T} {wg : WpG} {we : WpE} {vs : List Nat} {env : En} {μ : Mu} {P : KT} (f : Nat → T) (ok : rdL μ t = some ts) (hl : ts.length ≤ 1000000)
    (h : ∀ (i : Nat) (x : T), ts[i]? = some x → ∀ Q : KT, Q (f i) μ → wg x (wipeE env vs) μ fun env3 μ3 => we env3 μ3 Q NX)
    (hp : P (.loc μ.length) (μ ++ [.lst ((List.range ts.length).map f)])) : LcG (itL t ts) wg wYes we vs env μ P :=
  lc_pure f ok hl (fun i hi Q q => ⟨ts[i], List.getElem?_eq_getElem hi, h i _ (List.getElem?_eq_getElem hi) Q q⟩) hp
theorem lc_str {L : List Nat} {wg : WpG} {we : WpE} {vs : List Nat} {env : En} {μ : Mu} {P : KT} (f : Nat → T) (hl : L.length ≤ 1000000)
    (h : ∀ (i c : Nat), L[i]? = some c → ∀ Q : KT, Q (f i) μ → wg (.dat (.str (tz [c]))) (wipeE env vs) μ fun env3 μ3 => we env3 μ3 Q NX)
    (hp : P (.loc μ.length) (μ ++ [.lst ((List.range L.length).map f)])) : LcG (itS (tz L)) wg wYes we vs env μ P :=
  lc_pure f trivial hl (fun i hi Q q => ⟨L[i]'hi, by show L.toArray[i]? = _; rw [List.getElem?_toArray]; exact List.getElem?_eq_getElem hi, h i _ (List.getElem?_eq_getElem hi) Q q⟩) hp
theorem range_map {α β : Type} {f : α → β} {d : α} (l : List α) : (List.range l.length).map (fun i => f (l.getD i d)) = l.map f := by
  apply List.ext_getElem?
  intro i
  rw [List.getElem?_map, List.getElem?_map]
  by_cases hi : i < l.length
  · rw [List.getElem?_range hi, List.getElem?_eq_getElem hi, Option.map_some, List.getD_eq_getElem?_getD, List.getElem?_eq_getElem hi]
    rfl
  · rw [List.getElem?_eq_none (by simpa using hi), List.getElem?_eq_none (by simpa using hi)]
    rfl
theorem cAll_live {n : Nat} {bs : List Bool} {μ : Mu} {P : KT} (h : μ[n]? = some (.lst (bs.map fun b => .dat (.bool b)))) (hp : P (.dat (.bool (bs.all id))) μ) : cAll [.loc n] μ P := by
  unfold cAll cBL
  simp only [rdL_live h, bolsT_map]
  exact hp
theorem all_true {n : Nat} {m : Nat} {μ : Mu} {P : KT} (h : μ[n]? = some (.lst ((List.range m).map fun _ => T.dat (.bool true)))) (hp : P (.dat (.bool true)) μ) : cAll [.loc n] μ P := by
  refine cAll_live (bs := (List.range m).map fun _ => true) ?_ ?_
  · rw [h, List.map_map]
    rfl
  · have : ((List.range m).map fun _ => true).all id = true := by simp
    rw [this]
    exact hp
theorem inz_at {xs : List Nat} {i : Nat} {x : T} (h : (dsi xs)[i]? = some x) : ∃ y, xs[i]? = some y ∧ x = .dat (.int (y : Nat)) := by
  simp [dsi] at h
  obtain ⟨y, h1, h2⟩ := h
  exact ⟨y, h1, h2.symm⟩
theorem oSl_datL {ds : List PyData} {lo hi : Option Int} {μ : Mu} {P : KT} (hp : P (.loc μ.length) (μ ++ [.lst (cutT (ds.map .dat) lo hi)])) : oSl (.dat (.list ds)) lo hi μ P := hp
def w_is_rising_1 : WpS := (wRet (wAndT (wVar 2) (wCB cAll (wCons (wLc (wi_zip2 (wCons (wVar 0) (wCons (wSl oSl (wVar 0) (wPart (wC (.int 1))) wNoPart) wNil))) (wgTup 2 (wgCons (wgName 4) (wgCons (wgName 5) wgNil))) wYes (wOp (oI CTrue gLt) (wVar 4) (wVar 5)) [4, 5]) wNil))))
def w_is_rising : WpS := (wSeq (wAsg (wCB cAll (wCons (wLc (wiA (wVar 0)) (wgName 3) wYes (wChain (oI CTrue gLe) (oI CTrue gLt) (wC (.int 0)) (wVar 3) (wVar 1)) [3]) wNil)) (wgName 2))
    w_is_rising_1)
def d_is_rising : DSp := fun ts μ P _ => ∃ (xs : List Nat) (many : Int), ts = [.dat (.list (inz xs)), .dat (.int many)] ∧ μ = [] ∧ xs.length ≤ 1000 ∧ (∀ x ∈ xs, (x : Int) < many) ∧ xs.Pairwise (· < ·) ∧ P (.dat (.bool true)) []
theorem p_is_rising (ts : List T) (μ : Mu) (PT : KT) (PX : KX) (h : d_is_rising ts μ PT PX) : w_is_rising (DEof μ.length PT PX) (startE 6 ts) μ := by
  obtain ⟨xs, many, rfl, rfl, hl, hx, hs, hP⟩ := h
  have hsz := sizeLine_ge
  simp [w_is_rising, DE.px, wSeq, wIfS, wB, wOp, wVar, wC, startE, asB, nm_dat, nm, oI, rdQ, rdL, rdT, wAsg, wgName, wgSub, wRet, wRetN, wNext, wDrop, wCall, wCB, wPar, wBM, wSl, wPart, wNoPart, wgTup, wgCons, wgNil, wCons, wNil, cInt, itR, itT, itS, itL, wiR1, wiR2, wiT, wiS, wiL, wLc_eq, wFor_eq, wYes, wipeE, oAdd_int, oEqA_int', oEqA_str', oNeA_str', CTrue, gGt, gMul, gMod, gPow, gDiv, gSub, gLt, gLe, gGe, gAdd, gNeg, gMax, gMin, gAbs, cI1, cI2, wUn, uI, wIf, wTru, asTru, truT, wNot, wAnd, wOr, wAndV, wOrV, wNotV, wLst, wTup, mkL, nm, wStarA, wRev, wPar3, wSetF, wFld, rdI, putT, wProp, wMake, wMeth, wSortSet, List.lookup]
  refine wiA_L (t := .dat (.list (inz xs))) (ts := dsi xs) (var_q rfl) (congrArg some (inz_dsi xs)) ?_
  refine lc_list (fun _ => .dat (.bool true)) (congrArg some (inz_dsi xs)) (by simp [dsi_len]; omega) (fun i x hi Q q => ?_) ?_
  · obtain ⟨y, h1, rfl⟩ := inz_at hi
    have := hx y (List.mem_of_getElem? h1)
    simp [DE.px, wSeq, wIfS, wB, wOp, wVar, wC, startE, asB, nm_dat, nm, oI, rdQ, rdL, rdT, wAsg, wgName, wgSub, wRet, wRetN, wNext, wDrop, wCall, wCB, wPar, wBM, wSl, wPart, wNoPart, wgTup, wgCons, wgNil, wCons, wNil, cInt, itR, itT, itS, itL, wiR1, wiR2, wiT, wiS, wiL, wLc_eq, wFor_eq, wYes, wipeE, oAdd_int, oEqA_int', oEqA_str', oNeA_str', CTrue, gGt, gMul, gMod, gPow, gDiv, gSub, gLt, gLe, gGe, gAdd, gNeg, gMax, gMin, gAbs, cI1, cI2, wUn, uI, wIf, wTru, asTru, truT, wNot, wAnd, wOr, wAndV, wOrV, wNotV, wLst, wTup, mkL, nm, wStarA, wRev, wPar3, wSetF, wFld, rdI, putT, wProp, wMake, wMeth, wSortSet, List.lookup, wChain, this]
    exact q
  refine all_true rfl ?_
  simp [w_is_rising_1, DE.px, wSeq, wIfS, wB, wOp, wVar, wC, startE, asB, nm_dat, nm, oI, rdQ, rdL, rdT, wAsg, wgName, wgSub, wRet, wRetN, wNext, wDrop, wCall, wCB, wPar, wBM, wSl, wPart, wNoPart, wgTup, wgCons, wgNil, wCons, wNil, cInt, itR, itT, itS, itL, wiR1, wiR2, wiT, wiS, wiL, wLc_eq, wFor_eq, wYes, wipeE, oAdd_int, oEqA_int', oEqA_str', oNeA_str', CTrue, gGt, gMul, gMod, gPow, gDiv, gSub, gLt, gLe, gGe, gAdd, gNeg, gMax, gMin, gAbs, cI1, cI2, wUn, uI, wIf, wTru, asTru, truT, wNot, wAnd, wOr, wAndV, wOrV, wNotV, wLst, wTup, mkL, nm, wStarA, wRev, wPar3, wSetF, wFld, rdI, putT, wProp, wMake, wMeth, wSortSet, List.lookup, wAndT, truT, wi_zip2]
  refine oSl_datL ?_
  have ec : cutT ((inz xs).map T.dat) (some 1) none = (dsi xs).drop 1 := by rw [inz_dsi]; exact cutT_hi _ (by decide)
  rw [ec]
  show LcG (itZ (.dat (.list (inz xs))) (.loc 1) (dsi xs) ((dsi xs).drop 1)) _ _ _ _ _ _ _
  refine lc_pure (fun _ => .dat (.bool true)) ⟨congrArg some (inz_dsi xs), rdL_live (n := 1) rfl⟩ (by simp [itZ, dsi_len]; omega) (fun i hi Q q => ?_) ?_
  · have hi : i < min (dsi xs).length ((dsi xs).drop 1).length := hi
    have hi1 : i + 1 < xs.length := by simp [dsi_len] at hi; omega
    refine ⟨.dat (.int (xs[i] : Nat)), .dat (.int (xs[i + 1] : Nat)), dsi_at (List.getElem?_eq_getElem (by omega)), by rw [List.getElem?_drop, Nat.add_comm]; exact dsi_at (List.getElem?_eq_getElem hi1), ?_⟩
    have := List.pairwise_iff_getElem.mp hs i (i + 1) (by omega) hi1 (by omega)
    refine (mkT_2 _ _ _ _).mpr ?_
    simp [DE.px, wSeq, wIfS, wB, wOp, wVar, wC, startE, asB, nm_dat, nm, oI, rdQ, rdL, rdT, wAsg, wgName, wgSub, wRet, wRetN, wNext, wDrop, wCall, wCB, wPar, wBM, wSl, wPart, wNoPart, wgTup, wgCons, wgNil, wCons, wNil, cInt, itR, itT, itS, itL, wiR1, wiR2, wiT, wiS, wiL, wLc_eq, wFor_eq, wYes, wipeE, oAdd_int, oEqA_int', oEqA_str', oNeA_str', CTrue, gGt, gMul, gMod, gPow, gDiv, gSub, gLt, gLe, gGe, gAdd, gNeg, gMax, gMin, gAbs, cI1, cI2, wUn, uI, wIf, wTru, asTru, truT, wNot, wAnd, wOr, wAndV, wOrV, wNotV, wLst, wTup, mkL, nm, wStarA, wRev, wPar3, wSetF, wFld, rdI, putT, wProp, wMake, wMeth, wSortSet, List.lookup, this]
    simpa using q
  refine all_true (n := 2) rfl ?_
  exact end0 hP
theorem c_is_rising {t : T} {xs : List Nat} {many : Int} {μ : Mu} {P : KT} {PX : KX} (h : toD 8 μ t = some (.list (inz xs))) (hl : xs.length ≤ 1000) (hx : ∀ x ∈ xs, (x : Int) < many) (hs : xs.Pairwise (· < ·)) (hP : P (.dat (.bool true)) μ) : callD (Dn 2 d_is_rising) [t, .dat (.int many)] μ P PX := by
  refine callL0 (ds := [.list (inz xs), .int many]) (by simp [toDs, h, toD_dat]) fun PT PX' k _ => ⟨rfl, xs, many, rfl, rfl, hl, hx, hs, k _ _ trivial (fun o m => by simp at m) ?_⟩
  simpa [T.ren] using hP
/-! ### good tables -/
structure Tok (L : List Nat) (R : Rows) (E : List Nat) : Prop where
  low : Low L
  asc : L.Pairwise (· < ·)
  gt : Gt L.length R
  rl : R.length ≤ 60
  ea : E.Pairwise (· < ·)
  el : ∀ x ∈ E, x < R.length
theorem asc_len : ∀ {l : List Nat} {n : Nat}, l.Pairwise (· < ·) → (∀ x ∈ l, x < n) → l.length ≤ n := fun {l n} h k => by
  have := Tb.nd_sub (l := l) (m := List.range n) (h.imp fun z => by omega) (fun x m => List.mem_range.mpr (k x m))
  simpa using this
theorem find_all : (letters.all fun (c : Nat) => decide (Txt.find (tz letters) (tz [c]) = (((c - 97 : Nat) : Nat) : Int))) = true := by decide +kernel
theorem find_low {c : Nat} (h : low c = true) : Txt.find (tz letters) (tz [c]) = (((c - 97 : Nat) : Nat) : Int) := of_decide_eq_true (List.all_eq_true.mp find_all c (mem_letters.mpr h))
theorem Tok.sg {L E : List Nat} {R : Rows} (h : Tok L R E) : (L.map (· - 97)).Pairwise (· < ·) ∧ (∀ (x : Nat), x ∈ L.map (· - 97) → (x : Int) < 26) ∧ L.length ≤ 26 := by
  have hb : ∀ c ∈ L, 97 ≤ c ∧ c < 123 := fun c m => by
    have := h.low c m
    unfold DL.low at this
    simpa using this
  have h1 : (L.map (· - 97)).Pairwise (· < ·) := by
    refine List.pairwise_map.mpr (h.asc.imp_of_mem fun {a b} ma mb hab => ?_)
    have := hb a ma
    have := hb b mb
    omega
  have h2 : ∀ x ∈ L.map (· - 97), x < 26 := fun x m => by
    obtain ⟨c, mc, rfl⟩ := List.mem_map.mp m
    have := hb c mc
    omega
  refine ⟨h1, fun x m => by have := h2 x m; omega, ?_⟩
  have := asc_len h1 h2
  simpa using this
theorem Tok.el2 {L E : List Nat} {R : Rows} (h : Tok L R E) : E.length ≤ 60 := Nat.le_trans (asc_len h.ea h.el) h.rl
theorem Tok.tg {L E : List Nat} {R : Rows} (h : Tok L R E) : Tg L R E := ⟨h.low.sgn, Nat.le_trans h.sg.2.2 (by decide), (Nat.le_succ_of_le h.rl), fun r m => ⟨by have := h.gt.w r m; have := h.sg.2.2; omega, fun x mx => by have := h.gt.lt r m x mx; have := h.rl; omega⟩, Nat.le_succ_of_le h.el2, fun x m => by have := h.el x m; have := h.rl; omega⟩
def w_check_table_1 (cE : Nat → Addr) : WpS := (wIfS (wNot (wTru (wVar 5))) (wRaise (cE 6) (wCons (wTup (wCons (wVar 1) (wCons (wLc (wiA (wVar 2)) (wgName 6) wYes (wCB cList (wCons (wVar 6) wNil)) [6]) (wCons (wCB cList (wCons (wVar 3) wNil)) wNil)))) wNil)) wNext)
def w_check_table_2 : WpS := (wIfS (wOr (wB (wOp oNeA (wCB cLen (wCons (wVar 6) wNil)) (wCB cLen (wCons (wVar 1) wNil)))) (wNot (wTru (wCB cAll (wCons (wLc (wiA (wVar 6)) (wgName 8) wYes (wChain (oI CTrue gLe) (oI CTrue gLt) (wC (.int 0)) (wVar 8) (wCB cLen (wCons (wVar 2) wNil))) [8]) wNil))))) (wAsg (wC (.bool false)) (wgName 5)) wNext)
def w_check_table_3 (cE : Nat → Addr) : WpS := (wSeq (wFor (wiA (wVar 2)) (wgName 6) w_check_table_2)
    (w_check_table_1 cE))
def w_check_table_4 (cE : Nat → Addr) : WpS := (wSeq (wAsg (wAndV (wOp oNeA (wVar 2) (wLst wNil)) (wAndV (wCall (Dn 2 d_is_rising) (wCons (wVar 4) (wCons (wCB cLen (wCons (wC (.str "abcdefghijklmnopqrstuvwxyz")) wNil)) wNil))) (wCall (Dn 2 d_is_rising) (wCons (wVar 3) (wCons (wCB cLen (wCons (wVar 2) wNil)) wNil))))) (wgName 5))
    (w_check_table_3 cE))
def w_check_table_5 (cE : Nat → Addr) : WpS := (wSeq (wAsg (wLc (wiA (wVar 1)) (wgName 7) wYes (wBM "str" (mS1 CT2 gFind) (wC (.str "abcdefghijklmnopqrstuvwxyz")) (wCons (wVar 7) wNil)) [7]) (wgName 4))
    (w_check_table_4 cE))
def w_check_table (cE : Nat → Addr) : WpS := (wSeq (wAsg (wVar 0) (wgTup 3 (wgCons (wgName 1) (wgCons (wgName 2) (wgCons (wgName 3) wgNil)))))
    (w_check_table_5 cE))
def d_check_table (cE : Nat → Addr) : DSp := fun ts μ P _ => ∃ L R E, ts = [.dat (tabD L R E)] ∧ μ = [] ∧ Tok L R E ∧ P (.dat .none) []
theorem p_check_table (cE : Nat → Addr) (ts : List T) (μ : Mu) (PT : KT) (PX : KX) (h : d_check_table cE ts μ PT PX) : w_check_table cE (DEof μ.length PT PX) (startE 9 ts) μ := by
  obtain ⟨L, R, E, rfl, rfl, ok, hP⟩ := h
  have hsz := sizeLine_ge
  simp [w_check_table, DE.px, wSeq, wIfS, wB, wOp, wVar, wC, startE, asB, nm_dat, nm, oI, rdQ, rdL, rdT, wAsg, wgName, wgSub, wRet, wRetN, wNext, wDrop, wCall, wCB, wPar, wBM, wSl, wPart, wNoPart, wgTup, wgCons, wgNil, wCons, wNil, cInt, itR, itT, itS, itL, wiR1, wiR2, wiT, wiS, wiL, wLc_eq, wFor_eq, wYes, wipeE, oAdd_int, oEqA_int', oEqA_str', oNeA_str', CTrue, gGt, gMul, gMod, gPow, gDiv, gSub, gLt, gLe, gGe, gAdd, gNeg, gMax, gMin, gAbs, cI1, cI2, wUn, uI, wIf, wTru, asTru, truT, wNot, wAnd, wOr, wAndV, wOrV, wNotV, wLst, wTup, mkL, nm, wStarA, wRev, wPar3, wSetF, wFld, rdI, putT, wProp, wMake, wMeth, wSortSet, List.lookup]
  simp [w_check_table_5, DE.px, wSeq, wIfS, wB, wOp, wVar, wC, startE, asB, nm_dat, nm, oI, rdQ, rdL, rdT, wAsg, wgName, wgSub, wRet, wRetN, wNext, wDrop, wCall, wCB, wPar, wBM, wSl, wPart, wNoPart, wgTup, wgCons, wgNil, wCons, wNil, cInt, itR, itT, itS, itL, wiR1, wiR2, wiT, wiS, wiL, wLc_eq, wFor_eq, wYes, wipeE, oAdd_int, oEqA_int', oEqA_str', oNeA_str', CTrue, gGt, gMul, gMod, gPow, gDiv, gSub, gLt, gLe, gGe, gAdd, gNeg, gMax, gMin, gAbs, cI1, cI2, wUn, uI, wIf, wTru, asTru, truT, wNot, wAnd, wOr, wAndV, wOrV, wNotV, wLst, wTup, mkL, nm, wStarA, wRev, wPar3, wSetF, wFld, rdI, putT, wProp, wMake, wMeth, wSortSet, List.lookup]
  obtain ⟨sg1, sg2, sg3⟩ := ok.sg
  refine wiA_S (z := tz L) (var_q rfl) ?_
  refine lc_str (fun i => .dat (.int ((L.getD i 0 - 97 : Nat) : Int))) (by omega) (fun i c hc Q q => ?_) ?_
  · have e : L.getD i 0 = c := by rw [List.getD_eq_getElem?_getD, hc]; rfl
    have lc := ok.low c (List.mem_of_getElem? hc)
    rw [letters_eq]
    simp [DE.px, wSeq, wIfS, wB, wOp, wVar, wC, startE, asB, nm_dat, nm, oI, rdQ, rdL, rdT, wAsg, wgName, wgSub, wRet, wRetN, wNext, wDrop, wCall, wCB, wPar, wBM, wSl, wPart, wNoPart, wgTup, wgCons, wgNil, wCons, wNil, cInt, itR, itT, itS, itL, wiR1, wiR2, wiT, wiS, wiL, wLc_eq, wFor_eq, wYes, wipeE, oAdd_int, oEqA_int', oEqA_str', oNeA_str', CTrue, gGt, gMul, gMod, gPow, gDiv, gSub, gLt, gLe, gGe, gAdd, gNeg, gMax, gMin, gAbs, cI1, cI2, wUn, uI, wIf, wTru, asTru, truT, wNot, wAnd, wOr, wAndV, wOrV, wNotV, wLst, wTup, mkL, nm, wStarA, wRev, wPar3, wSetF, wFld, rdI, putT, wProp, wMake, wMeth, wSortSet, List.lookup, mS1, gFind, CT2]
    rw [find_low lc, ← e]
    exact ⟨rfl, q⟩
  have el : (List.range L.length).map (fun i => T.dat (.int ((L.getD i 0 - 97 : Nat) : Int))) = dsi (L.map (· - 97)) := by
    rw [range_map (f := fun c => T.dat (.int ((c - 97 : Nat) : Int)))]
    unfold dsi
    rw [List.map_map]
    rfl
  rw [el]
  simp [w_check_table_4, DE.px, wSeq, wIfS, wB, wOp, wVar, wC, startE, asB, nm_dat, nm, oI, rdQ, rdL, rdT, wAsg, wgName, wgSub, wRet, wRetN, wNext, wDrop, wCall, wCB, wPar, wBM, wSl, wPart, wNoPart, wgTup, wgCons, wgNil, wCons, wNil, cInt, itR, itT, itS, itL, wiR1, wiR2, wiT, wiS, wiL, wLc_eq, wFor_eq, wYes, wipeE, oAdd_int, oEqA_int', oEqA_str', oNeA_str', CTrue, gGt, gMul, gMod, gPow, gDiv, gSub, gLt, gLe, gGe, gAdd, gNeg, gMax, gMin, gAbs, cI1, cI2, wUn, uI, wIf, wTru, asTru, truT, wNot, wAnd, wOr, wAndV, wOrV, wNotV, wLst, wTup, mkL, nm, wStarA, wRev, wPar3, wSetF, wFld, rdI, putT, wProp, wMake, wMeth, wSortSet, List.lookup]
  have tg := ok.tg
  have shR : SeqAt.shaped (.list (rwD R)) = true := tg.gr.shp
  refine oNeA_dd (d := .list (rwD R)) (e := .list []) (toD_dat _ _ _) (toD_lst (n := 1) (ts := []) rfl (by simp [toDs])) shR shaped_nil ?_
  rw [eqv_nil]
  have ne : (rwD R).isEmpty = false := by
    have := ok.gt.ne
    cases R with
    | nil => simp at this
    | cons r R => rfl
  rw [ne]
  simp [DE.px, wSeq, wIfS, wB, wOp, wVar, wC, startE, asB, nm_dat, nm, oI, rdQ, rdL, rdT, wAsg, wgName, wgSub, wRet, wRetN, wNext, wDrop, wCall, wCB, wPar, wBM, wSl, wPart, wNoPart, wgTup, wgCons, wgNil, wCons, wNil, cInt, itR, itT, itS, itL, wiR1, wiR2, wiT, wiS, wiL, wLc_eq, wFor_eq, wYes, wipeE, oAdd_int, oEqA_int', oEqA_str', oNeA_str', CTrue, gGt, gMul, gMod, gPow, gDiv, gSub, gLt, gLe, gGe, gAdd, gNeg, gMax, gMin, gAbs, cI1, cI2, wUn, uI, wIf, wTru, asTru, truT, wNot, wAnd, wOr, wAndV, wOrV, wNotV, wLst, wTup, mkL, nm, wStarA, wRev, wPar3, wSetF, wFld, rdI, putT, wProp, wMake, wMeth, wSortSet, List.lookup]
  rw [letters_eq]
  refine cLen_str (by decide) ?_
  refine c_is_rising (toD_lst (n := 0) rfl (toDs_dsi _ _ _)) (by simp; omega) sg2 sg1 ?_
  simp [DE.px, wSeq, wIfS, wB, wOp, wVar, wC, startE, asB, nm_dat, nm, oI, rdQ, rdL, rdT, wAsg, wgName, wgSub, wRet, wRetN, wNext, wDrop, wCall, wCB, wPar, wBM, wSl, wPart, wNoPart, wgTup, wgCons, wgNil, wCons, wNil, cInt, itR, itT, itS, itL, wiR1, wiR2, wiT, wiS, wiL, wLc_eq, wFor_eq, wYes, wipeE, oAdd_int, oEqA_int', oEqA_str', oNeA_str', CTrue, gGt, gMul, gMod, gPow, gDiv, gSub, gLt, gLe, gGe, gAdd, gNeg, gMax, gMin, gAbs, cI1, cI2, wUn, uI, wIf, wTru, asTru, truT, wNot, wAnd, wOr, wAndV, wOrV, wNotV, wLst, wTup, mkL, nm, wStarA, wRev, wPar3, wSetF, wFld, rdI, putT, wProp, wMake, wMeth, wSortSet, List.lookup]
  refine cLen_seq (ts := (rwD R).map .dat) rfl (fun z h => by cases h) ?_
  refine c_is_rising (toD_dat _ _ _) (by have := ok.el2; omega) (fun x m => by have := ok.el x m; simp; omega) ok.ea ?_
  simp [w_check_table_3, DE.px, wSeq, wIfS, wB, wOp, wVar, wC, startE, asB, nm_dat, nm, oI, rdQ, rdL, rdT, wAsg, wgName, wgSub, wRet, wRetN, wNext, wDrop, wCall, wCB, wPar, wBM, wSl, wPart, wNoPart, wgTup, wgCons, wgNil, wCons, wNil, cInt, itR, itT, itS, itL, wiR1, wiR2, wiT, wiS, wiL, wLc_eq, wFor_eq, wYes, wipeE, oAdd_int, oEqA_int', oEqA_str', oNeA_str', CTrue, gGt, gMul, gMod, gPow, gDiv, gSub, gLt, gLe, gGe, gAdd, gNeg, gMax, gMin, gAbs, cI1, cI2, wUn, uI, wIf, wTru, asTru, truT, wNot, wAnd, wOr, wAndV, wOrV, wNotV, wLst, wTup, mkL, nm, wStarA, wRev, wPar3, wSetF, wFld, rdI, putT, wProp, wMake, wMeth, wSortSet, List.lookup]
  refine wiA_L (t := .dat (.list (rwD R))) (ts := (rwD R).map .dat) (var_q rfl) rfl ?_
  obtain ⟨Inv, hI⟩ : ∃ Inv : Nat → En → Mu → Prop, Inv = (fun (i : Nat) (env : En) (μ : Mu) => ∃ a6 a7 a8 : Option T, env = [some (.dat (tabD L R E)), some (.dat (.str (tz L))), some (.dat (.list (rwD R))), some (.dat (.list (inz E))), some (.loc 0), some (.dat (.bool true)), a6, a7, a8]) := ⟨_, rfl⟩
  refine ⟨Inv, by rw [hI]; exact ⟨_, _, _, rfl⟩, fun _ _ _ _ _ => rfl, fun i env μ hi h => ?_, fun env μ h => ?_⟩
  · rw [hI] at h
    obtain ⟨a6, a7, a8, rfl⟩ := h
    have hi : i < ((rwD R).map T.dat).length := hi
    have hR : i < R.length := by simpa using hi
    have rw1 := ok.gt.w R[i] (List.getElem_mem hR)
    have rl1 := ok.gt.lt R[i] (List.getElem_mem hR)
    refine ⟨.dat (.list (inz R[i])), by simp [rwD, hR], ?_⟩
    simp [w_check_table_2, DE.px, wSeq, wIfS, wB, wOp, wVar, wC, startE, asB, nm_dat, nm, oI, rdQ, rdL, rdT, wAsg, wgName, wgSub, wRet, wRetN, wNext, wDrop, wCall, wCB, wPar, wBM, wSl, wPart, wNoPart, wgTup, wgCons, wgNil, wCons, wNil, cInt, itR, itT, itS, itL, wiR1, wiR2, wiT, wiS, wiL, wLc_eq, wFor_eq, wYes, wipeE, oAdd_int, oEqA_int', oEqA_str', oNeA_str', CTrue, gGt, gMul, gMod, gPow, gDiv, gSub, gLt, gLe, gGe, gAdd, gNeg, gMax, gMin, gAbs, cI1, cI2, wUn, uI, wIf, wTru, asTru, truT, wNot, wAnd, wOr, wAndV, wOrV, wNotV, wLst, wTup, mkL, nm, wStarA, wRev, wPar3, wSetF, wFld, rdI, putT, wProp, wMake, wMeth, wSortSet, List.lookup]
    refine cLen_seq (ts := dsi R[i]) (congrArg some (inz_dsi _)) (fun z h => by cases h) ?_
    refine cLen_str (by omega) ?_
    rw [oNeA_int']
    simp [DE.px, wSeq, wIfS, wB, wOp, wVar, wC, startE, asB, nm_dat, nm, oI, rdQ, rdL, rdT, wAsg, wgName, wgSub, wRet, wRetN, wNext, wDrop, wCall, wCB, wPar, wBM, wSl, wPart, wNoPart, wgTup, wgCons, wgNil, wCons, wNil, cInt, itR, itT, itS, itL, wiR1, wiR2, wiT, wiS, wiL, wLc_eq, wFor_eq, wYes, wipeE, oAdd_int, oEqA_int', oEqA_str', oNeA_str', CTrue, gGt, gMul, gMod, gPow, gDiv, gSub, gLt, gLe, gGe, gAdd, gNeg, gMax, gMin, gAbs, cI1, cI2, wUn, uI, wIf, wTru, asTru, truT, wNot, wAnd, wOr, wAndV, wOrV, wNotV, wLst, wTup, mkL, nm, wStarA, wRev, wPar3, wSetF, wFld, rdI, putT, wProp, wMake, wMeth, wSortSet, List.lookup, dsi_len, rw1]
    refine wiA_L (t := .dat (.list (inz R[i]))) (ts := dsi R[i]) (var_q rfl) (congrArg some (inz_dsi _)) ?_
    refine lc_list (fun _ => .dat (.bool true)) (congrArg some (inz_dsi _)) (by simp [dsi_len]; omega) (fun j x hj Q q => ?_) ?_
    · obtain ⟨y, h1, rfl⟩ := inz_at hj
      have := rl1 y (List.mem_of_getElem? h1)
      simp [DE.px, wSeq, wIfS, wB, wOp, wVar, wC, startE, asB, nm_dat, nm, oI, rdQ, rdL, rdT, wAsg, wgName, wgSub, wRet, wRetN, wNext, wDrop, wCall, wCB, wPar, wBM, wSl, wPart, wNoPart, wgTup, wgCons, wgNil, wCons, wNil, cInt, itR, itT, itS, itL, wiR1, wiR2, wiT, wiS, wiL, wLc_eq, wFor_eq, wYes, wipeE, oAdd_int, oEqA_int', oEqA_str', oNeA_str', CTrue, gGt, gMul, gMod, gPow, gDiv, gSub, gLt, gLe, gGe, gAdd, gNeg, gMax, gMin, gAbs, cI1, cI2, wUn, uI, wIf, wTru, asTru, truT, wNot, wAnd, wOr, wAndV, wOrV, wNotV, wLst, wTup, mkL, nm, wStarA, wRev, wPar3, wSetF, wFld, rdI, putT, wProp, wMake, wMeth, wSortSet, List.lookup, wChain]
      refine cLen_seq (ts := (rwD R).map .dat) rfl (fun z h => by cases h) ?_
      simp [DE.px, wSeq, wIfS, wB, wOp, wVar, wC, startE, asB, nm_dat, nm, oI, rdQ, rdL, rdT, wAsg, wgName, wgSub, wRet, wRetN, wNext, wDrop, wCall, wCB, wPar, wBM, wSl, wPart, wNoPart, wgTup, wgCons, wgNil, wCons, wNil, cInt, itR, itT, itS, itL, wiR1, wiR2, wiT, wiS, wiL, wLc_eq, wFor_eq, wYes, wipeE, oAdd_int, oEqA_int', oEqA_str', oNeA_str', CTrue, gGt, gMul, gMod, gPow, gDiv, gSub, gLt, gLe, gGe, gAdd, gNeg, gMax, gMin, gAbs, cI1, cI2, wUn, uI, wIf, wTru, asTru, truT, wNot, wAnd, wOr, wAndV, wOrV, wNotV, wLst, wTup, mkL, nm, wStarA, wRev, wPar3, wSetF, wFld, rdI, putT, wProp, wMake, wMeth, wSortSet, List.lookup, this]
      exact q
    · refine all_true at_end ?_
      simp [DE.px, wSeq, wIfS, wB, wOp, wVar, wC, startE, asB, nm_dat, nm, oI, rdQ, rdL, rdT, wAsg, wgName, wgSub, wRet, wRetN, wNext, wDrop, wCall, wCB, wPar, wBM, wSl, wPart, wNoPart, wgTup, wgCons, wgNil, wCons, wNil, cInt, itR, itT, itS, itL, wiR1, wiR2, wiT, wiS, wiL, wLc_eq, wFor_eq, wYes, wipeE, oAdd_int, oEqA_int', oEqA_str', oNeA_str', CTrue, gGt, gMul, gMod, gPow, gDiv, gSub, gLt, gLe, gGe, gAdd, gNeg, gMax, gMin, gAbs, cI1, cI2, wUn, uI, wIf, wTru, asTru, truT, wNot, wAnd, wOr, wAndV, wOrV, wNotV, wLst, wTup, mkL, nm, wStarA, wRev, wPar3, wSetF, wFld, rdI, putT, wProp, wMake, wMeth, wSortSet, List.lookup]
      rw [hI]
      exact ⟨_, _, _, rfl⟩
  · rw [hI] at h
    obtain ⟨a6, a7, a8, rfl⟩ := h
    simp [w_check_table_1, DE.px, wSeq, wIfS, wB, wOp, wVar, wC, startE, asB, nm_dat, nm, oI, rdQ, rdL, rdT, wAsg, wgName, wgSub, wRet, wRetN, wNext, wDrop, wCall, wCB, wPar, wBM, wSl, wPart, wNoPart, wgTup, wgCons, wgNil, wCons, wNil, cInt, itR, itT, itS, itL, wiR1, wiR2, wiT, wiS, wiL, wLc_eq, wFor_eq, wYes, wipeE, oAdd_int, oEqA_int', oEqA_str', oNeA_str', CTrue, gGt, gMul, gMod, gPow, gDiv, gSub, gLt, gLe, gGe, gAdd, gNeg, gMax, gMin, gAbs, cI1, cI2, wUn, uI, wIf, wTru, asTru, truT, wNot, wAnd, wOr, wAndV, wOrV, wNotV, wLst, wTup, mkL, nm, wStarA, wRev, wPar3, wSetF, wFld, rdI, putT, wProp, wMake, wMeth, wSortSet, List.lookup]
    exact end0 hP
end DL
/-! TB5: classes by the program. -/
namespace DL
open PySem PySem.Spec L2
open Tb (Rows Gt Lq)
/-! ### dicts that number things -/
def kN (i : Nat) : Key := .inl (i : Int)
/-- each key with its number, from k on -/
def dix {α κ : Type} (f : α → κ) : Nat → List α → List (κ × T)
  | _, [] => []
  | k, x :: r => (f x, .dat (.int (k : Nat))) :: dix f (k + 1) r
theorem allD_dsi2 (μ : Mu) (xs : List Nat) : allD μ (dsi xs) = some (inz xs) := by
  rw [dsi_dat]
  exact allD_dats _ _
theorem ix_ints {x : T} {xs : List Nat} {i y : Nat} {μ : Mu} {P : KT} (h : rdQ μ x = some (dsi xs)) (hi : xs[i]? = some y) (hp : P (.dat (.int (y : Nat))) μ) : oIx x (.dat (.int (i : Nat))) μ P := by
  refine .inl ?_
  unfold oIxQ
  rw [h]
  exact ⟨_, atI_nat (dsi_at hi), hp⟩
theorem inI_dec (x : Nat) (xs : List Nat) : inI (x : Int) xs = decide (x ∈ xs) := by
  unfold inI
  rw [Bool.eq_iff_iff, List.any_eq_true]
  simp
  constructor
  · rintro ⟨a, ha, e⟩
    have : a = x := by omega
    rw [← this]
    exact ha
  · intro h
    exact ⟨x, h, rfl⟩
theorem oIn_n {x : Nat} {xs : List Nat} {y : T} {μ : Mu} {P : KT} (h : rdQ μ y = some (dsi xs)) (hp : P (.dat (.bool (decide (x ∈ xs)))) μ) : oIn (.dat (.int (x : Nat))) y μ P := by
  refine .inr ?_
  show (match nm μ (.dat (.int (x : Nat))), rdQ μ y with
    | .dat d, some ts => match allD μ ts with
      | some ds => flatD d = true ∧ ds.all flatD = true ∧ P (.dat (.bool (if false then !ds.any (fun e => PyData.eqv e d) else ds.any (fun e => PyData.eqv e d)))) μ
      | none => False
    | _, _ => False)
  rw [h]
  show (match allD μ (dsi xs) with
      | some ds => flatD (.int (x : Nat)) = true ∧ ds.all flatD = true ∧ P (.dat (.bool (if false then !ds.any (fun e => PyData.eqv e (.int (x : Nat))) else ds.any (fun e => PyData.eqv e (.int (x : Nat)))))) μ
      | none => False)
  rw [allD_dsi2]
  have e : (inz xs).any (fun e => PyData.eqv e (.int (x : Nat))) = inI x xs := by
    unfold inI inz
    rw [List.any_map]
    congr 1
  refine ⟨rfl, ?_, ?_⟩
  · unfold inz
    rw [List.all_map]
    exact List.all_eq_true.mpr fun _ _ => rfl
  · show P (.dat (.bool ((inz xs).any fun e => PyData.eqv e (.int (x : Nat))))) μ
    rw [e, inI_dec]
    exact hp
theorem rdQ_inz (xs : List Nat) (μ : Mu) : rdQ μ (.dat (.list (inz xs))) = some (dsi xs) := congrArg some (inz_dsi xs)
end DL
/-! TB6: least tables by the program. -/
namespace DL
open PySem PySem.Spec L2
open Tb (Rows Gt Lq)
/-! ### dicts by numbers -/
def dmp (g : Nat → Nat) (ks : List Nat) : List (Key × T) := ks.map fun c => (kN c, .dat (.int (g c : Nat)))
/-! ### the store of the search -/
structure SmS (μ : Mu) (cl o : List Nat) (f : Rows) (ls : List Nat) : Prop where
  h0 : μ[0]? = some (.lst (dsi cl))
  h1 : μ[1]? = some (.dk (dmp (Tb.ix cl) (Tb.nub cl)))
  h2 : μ[2]? = some (.lst (dsi o))
  h3 : μ[3]? = some (.dk (dix kN 0 o))
  h4 : μ[4]? = some (.lst (ls.map .loc))
  len : ls.length = f.length
  row : ∀ (i l : Nat) (q : List Nat), ls[i]? = some l → f[i]? = some q → μ[l]? = some (.lst (dsi q))
  nd : ls.Nodup
  ge : ∀ x ∈ ls, 5 ≤ x
theorem ix_rows {R : Rows} {s : Nat} {q : List Nat} {μ : Mu} {P : KT} (h : R[s]? = some q) (hp : P (.dat (.list (inz q))) μ) : oIx (.dat (.list (rwD R))) (.dat (.int (s : Nat))) μ P := by
  refine .inl ?_
  unfold oIxQ
  have e : rdQ μ (.dat (.list (rwD R))) = some ((rwD R).map .dat) := rfl
  rw [e]
  exact ⟨_, atI_nat (by unfold rwD; rw [List.getElem?_map, List.getElem?_map, h]; rfl), hp⟩
theorem mkT_live {ts : List T} {n : Nat} {o : O} {μ : Mu} {P : KT} (m : T.loc n ∈ ts) (h : μ[n]? = some o) (hf : ∀ d, o ≠ .frz d) (hp : P (.loc μ.length) (μ ++ [.tup ts])) : mkT ts μ P := by
  have : allD μ ts = none := by
    have key : ∀ us : List T, T.loc n ∈ us → allD μ us = none := fun us => by
      induction us with
      | nil => intro z; cases z
      | cons u us ih =>
        intro z
        rcases List.mem_cons.mp z with rfl | z
        · rw [allD, nm_loc h hf]
        · rw [allD, ih z]
          split <;> simp_all
    exact key ts m
  unfold mkT
  rw [this]
  exact hp
theorem SmS.kp {μ μ' : Mu} {cl o : List Nat} {f : Rows} {ls : List Nat} (h : SmS μ cl o f ls) (k : ∀ n u, (n ≤ 4 ∨ n ∈ ls) → μ[n]? = some u → μ'[n]? = some u) : SmS μ' cl o f ls :=
  ⟨k _ _ (.inl (by decide)) h.h0, k _ _ (.inl (by decide)) h.h1, k _ _ (.inl (by decide)) h.h2, k _ _ (.inl (by decide)) h.h3, k _ _ (.inl (by decide)) h.h4, h.len, fun i l q a b => k _ _ (.inr (List.mem_of_getElem? a)) (h.row i l q a b), h.nd, h.ge⟩
theorem SmS.app {μ : Mu} {cl o : List Nat} {f : Rows} {ls : List Nat} (h : SmS μ cl o f ls) (g : Mu) : SmS (μ ++ g) cl o f ls := h.kp fun n u _ e => by
  rw [List.getElem?_append_left (List.getElem?_eq_some_iff.mp e).1]
  exact e
theorem SmS.setp {μ : Mu} {cl o : List Nat} {f : Rows} {ls : List Nat} {p : Nat} {u : O} (h : SmS μ cl o f ls) (h4 : 4 < p) (hp : p ∉ ls) : SmS (μ.set p u) cl o f ls := h.kp fun n v m e => by
  rw [List.getElem?_set_ne (by rcases m with m | m
                               · omega
                               · exact fun z => hp (z ▸ m))]
  exact e
theorem SmS.lt {μ : Mu} {cl o : List Nat} {f : Rows} {ls : List Nat} (h : SmS μ cl o f ls) : ∀ x ∈ ls, x < μ.length := fun x m => by
  obtain ⟨i, hi⟩ := List.mem_iff_getElem?.mp m
  have li := (List.getElem?_eq_some_iff.mp hi).1
  have := h.row i x _ hi (List.getElem?_eq_getElem (by rw [← h.len]; exact li))
  exact (List.getElem?_eq_some_iff.mp this).1
/-- a comprehension with a test, the store as it was -/
theorem lc_filt {I : IT} {wg : WpG} {wt : WpT} {we : WpE} {vs : List Nat} {env : En} {μ : Mu} {P : KT} (f : Nat → T) (p : Nat → Bool) (ok : I.ok μ) (hl : I.n ≤ 1000000)
    (h : ∀ i, i < I.n → ∀ (Q : KT) (Qf : Mu → Prop), (p i = true → Q (f i) μ) → (p i = false → Qf μ) → I.itm i μ fun t μ2 => wg t (wipeE env vs) μ2 fun env3 μ3 => wt env3 μ3 (fun b μ4 => if b = true then we env3 μ4 Q NX else Qf μ4) NX)
    (hp : P (.loc μ.length) (μ ++ [.lst (((List.range I.n).filter p).map f)])) : LcG I wg wt we vs env μ P := by
  refine ⟨fun i acc μ' => μ' = μ ∧ acc = ((List.range i).filter p).map f, ⟨rfl, rfl⟩, fun i acc μ' _ h => (by rw [h.1]; exact ok), fun i acc μ' hi q => ?_, fun acc μ' q => ?_⟩
  · obtain ⟨rfl, rfl⟩ := q
    refine h i hi _ (fun μ4 => μ4 = μ' ∧ _ = _) (fun hp => ⟨?_, rfl, ?_⟩) fun hp => ⟨rfl, ?_⟩
    · have := sizeLine_ge
      have := List.length_filter_le p (List.range i)
      simp at this ⊢
      omega
    · rw [List.range_succ, List.filter_append, List.map_append]
      simp [hp]
    · rw [List.range_succ, List.filter_append, List.map_append]
      simp [hp]
  · obtain ⟨rfl, rfl⟩ := q
    exact hp
/-- a call that lends a table and gets one back -/
theorem k_tab {L E : List Nat} {R : Rows} {μ : Mu} {P PT : KT} (k : ∀ t μ', AtT t → (∀ o ∈ μ', AtO o) → P (t.ren (gV [] μ)) (μ ++ μ'.map (O.ren (gV [] μ))) → PT t μ') (hP : P (.loc μ.length) (μ ++ tabM μ.length L R E)) : PT (.loc 0) (tabM 0 L R E) := by
  refine k _ _ trivial (at_tab _ _ _ _) ?_
  rw [tab_ren (gV [] μ) 0 μ.length (fun i => by rw [gV_nil, Nat.zero_add])]
  simpa [T.ren, gV_nil] using hP
theorem c_check_table {cE : Nat → Addr} {t : T} {L : List Nat} {R : Rows} {E : List Nat} {μ : Mu} {P : KT} {PX : KX} (h : toD 8 μ t = some (tabD L R E)) (ok : Tok L R E) (hP : P (.dat .none) μ) : callD (Dn 1 (d_check_table cE)) [t] μ P PX :=
  callL0 (ds := [tabD L R E]) (by simp [toDs, h]) fun PT PX' k _ => ⟨rfl, L, R, E, rfl, rfl, ok, k _ _ trivial (fun o m => by simp at m) (by simpa [T.ren] using hP)⟩
end DL
/-! TB7: least tables by the laws. -/
namespace DL
open PySem PySem.Spec L2
open Tb (Rows Gt Lq)
/-! ### the store of the law's search -/
structure LqS (μ : Mu) (c p : Nat) (cl o : List Nat) (f : Rows) (ls : List Nat) : Prop where
  h0 : μ[c]? = some (.lst (dsi cl))
  hq : μ[p]? = some (.lst (dsi o))
  hf : μ[p + 1]? = some (.lst (ls.map .loc))
  cp : c < p
  len : ls.length = f.length
  row : ∀ (i l : Nat) (q : List Nat), ls[i]? = some l → f[i]? = some q → μ[l]? = some (.lst (dsi q))
  nd : ls.Nodup
  ge : ∀ x ∈ ls, p + 3 ≤ x
section
variable {μ μ' : Mu} {c p : Nat} {cl o : List Nat} {f : Rows} {ls : List Nat}
theorem LqS.kp (h : LqS μ c p cl o f ls) (k : ∀ n u, (n = c ∨ n = p ∨ n = p + 1 ∨ n ∈ ls) → μ[n]? = some u → μ'[n]? = some u) : LqS μ' c p cl o f ls :=
  ⟨k _ _ (.inl rfl) h.h0, k _ _ (.inr (.inl rfl)) h.hq, k _ _ (.inr (.inr (.inl rfl))) h.hf, h.cp, h.len, fun i l q a b => k _ _ (.inr (.inr (.inr (List.mem_of_getElem? a)))) (h.row i l q a b), h.nd, h.ge⟩
theorem LqS.app (h : LqS μ c p cl o f ls) (g : Mu) : LqS (μ ++ g) c p cl o f ls := h.kp fun n u _ e => by
  rw [List.getElem?_append_left (List.getElem?_eq_some_iff.mp e).1]
  exact e
theorem LqS.setp {r : Nat} {u : O} (h : LqS μ c p cl o f ls) (h4 : p + 1 < r) (hp : r ∉ ls) : LqS (μ.set r u) c p cl o f ls := h.kp fun n v m e => by
  have := h.cp
  rw [List.getElem?_set_ne (by rcases m with m | m | m | m
                               · omega
                               · omega
                               · omega
                               · exact fun z => hp (z ▸ m))]
  exact e
theorem LqS.lt (h : LqS μ c p cl o f ls) : ∀ x ∈ ls, x < μ.length := fun x m => by
  obtain ⟨i, hi⟩ := List.mem_iff_getElem?.mp m
  have li := (List.getElem?_eq_some_iff.mp hi).1
  have := h.row i x _ hi (List.getElem?_eq_getElem (by rw [← h.len]; exact li))
  exact (List.getElem?_eq_some_iff.mp this).1
end
end DL
/-! TB8: tables drawn: letters, copies, tables spoilt. -/
namespace DL
open PySem PySem.Spec L2
open Tb (Rows Gt Lq)
def w__law_purse_1 : WpS := (wRet (wLst (wCons (wCB (cI2 gMax) (wCons (wC (.int 0)) (wCons (wOp (oI CTrue gSub) (wCB (cI1 gAbs) (wCons (wVar 2) wNil)) (wOp (oI CPowW gPow) (wC (.int 10)) (wC (.int 18)))) wNil))) (wCons (wOp (oI CPos gMod) (wCB cInt (wCons (wOp oAdd (wOp oAdd (wOp (oI CMul gMul) (wVar 2) (wC (.int 30011))) (wOp (oI CMul gMul) (wVar 1) (wC (.int 7368787)))) (wC (.int 104729))) wNil)) (wOp oAdd (wOp (oI CPowW gPow) (wC (.int 10)) (wC (.int 24))) (wC (.int 7)))) (wCons (wC (.int 0)) wNil)))))
def w__law_purse : WpS := (wSeq (wAsg (wIf (wB (wOp (oI CTrue gLt) (wVar 1) (wCB cLen (wCons (wVar 0) wNil)))) (wOp oIx (wVar 0) (wVar 1)) (wC (.int 0))) (wgName 2))
    w__law_purse_1)
def d__law_purse : DSp := fun ts μ P _ => ∃ (ns : List Int) (i : Nat), ts = [.dat (.list (ns.map PyData.int)), .dat (.int i)] ∧ μ = [] ∧ i ≤ 63 ∧ ns.length ≤ 63 ∧ ∀ o, Pur 0 o → P (.loc 0) [o]
theorem p__law_purse (ts : List T) (μ : Mu) (PT : KT) (PX : KX) (h : d__law_purse ts μ PT PX) : w__law_purse (DEof μ.length PT PX) (startE 3 ts) μ := p__law_fm_purse ts μ PT PX h
theorem c_qpurse {ns : List Int} {i : Nat} {μ : Mu} {P : KT} {PX : KX} (hi : i ≤ 63) (hl : ns.length ≤ 63) (hP : ∀ o, Pur 0 o → P (.loc μ.length) (μ ++ [o])) : callD (Dn 2 d__law_purse) [.dat (.list (ns.map PyData.int)), .dat (.int i)] μ P PX := c_purse hi hl hP
theorem c_sortedLS {μ : Mu} {n : Nat} {ts : List T} {zs : List Str} {P : KT} (h : μ[n]? = some (.lst ts)) (e : strsT μ ts = some zs) (l : zs.length < 64) (hp : ∀ ys : List Str, ys.Perm zs → PyProof.Rows.sortedS ys = true → P (.loc μ.length) (μ ++ [.lst (ys.map fun y => .dat (.str y))])) : cSortedS [.loc n] μ P := by
  show (match rdL μ (.loc n) with
    | some xs => match strsT μ xs with
      | some zs => zs.length < 64 ∧ ∀ ys : List Str, ys.Perm zs → PyProof.Rows.sortedS ys = true → P (.loc μ.length) (μ ++ [.lst (ys.map fun y => .dat (.str y))])
      | none => False
    | none => False)
  rw [rdL_live h]
  show (match strsT μ ts with
      | some zs => zs.length < 64 ∧ ∀ ys : List Str, ys.Perm zs → PyProof.Rows.sortedS ys = true → P (.loc μ.length) (μ ++ [.lst (ys.map fun y => .dat (.str y))])
      | none => False)
  rw [e]
  exact ⟨l, hp⟩
theorem sum_ones {α : Type} : ∀ cs : List α, (cs.map fun _ => 1).sum = cs.length
  | [] => rfl
  | c :: cs => by rw [List.map_cons, List.sum_cons, sum_ones cs, List.length_cons, Nat.add_comm]
theorem strs_ones {ys : List Str} (h : ∀ y ∈ ys, ∃ c, low c = true ∧ y = tz [c]) : ∃ cs : List Nat, ys = cs.map (fun c => tz [c]) ∧ Low cs := by
  obtain ⟨cs, e, lo, _⟩ := join_ones ys h
  exact ⟨cs, by rw [e, List.map_map]; rfl, lo⟩
theorem lt_of_le_nd : ∀ {l : List Nat}, l.Pairwise (· ≤ ·) → l.Nodup → l.Pairwise (· < ·) := fun {l} h nd => by
  rw [List.nodup_iff_pairwise_ne] at nd
  exact (h.and nd).imp fun ⟨a, b⟩ => by omega
def w__law_qt_letters_1 : WpS := (wRet (wBM "str" mJoin (wC (.str "")) (wCons (wCB cSortedS (wCons (wVar 3) wNil)) wNil)))
def w__law_qt_letters_2 : WpS := (wAsg (wOp oAdd (wOp oAdd (wVar 2) (wC (.int 1))) (wCall (Dn 2 d__law_coin) (wCons (wVar 0) (wCons (wC (.int 5)) wNil)))) (wgName 2))
def w__law_qt_letters_3 : WpS := (wSeq (wDrop (wBM "list" mAppend (wVar 3) (wCons (wOp oIx (wC (.str "abcdefghijklmnopqrstuvwxyz")) (wOp (oI CPos gMod) (wCB cInt (wCons (wVar 2) wNil)) (wC (.int 26)))) wNil)))
    w__law_qt_letters_2)
def w__law_qt_letters_4 : WpS := (wSeq (wFor (wiR1 (wCons (wVar 1) wNil)) (wgName 4) w__law_qt_letters_3)
    w__law_qt_letters_1)
def w__law_qt_letters : WpS := (wSeq (wPar 2 3 (wCons (wCall (Dn 2 d__law_coin) (wCons (wVar 0) (wCons (wC (.int 26)) wNil))) (wCons (wLst wNil) wNil)))
    w__law_qt_letters_4)
def d__law_qt_letters : DSp := fun ts μ P _ => ∃ (o : O) (k : Int) (n : Nat), ts = [.loc 0, .dat (.int (n : Nat))] ∧ μ = [o] ∧ Pur k o ∧ k < 2 ^ 38 ∧ n ≤ 6 ∧ ∀ o' l, Pur (k + 7) o' → Low l → l.Pairwise (· < ·) → l.length = n → P (.dat (.str (tz l))) [o']
theorem p__law_qt_letters (ts : List T) (μ : Mu) (PT : KT) (PX : KX) (h : d__law_qt_letters ts μ PT PX) : w__law_qt_letters (DEof μ.length PT PX) (startE 5 ts) μ := by
  obtain ⟨o, k, n, rfl, rfl, hp, hk, hn, hP⟩ := h
  have hs := sizeLine_ge
  simp [w__law_qt_letters, DE.px, wSeq, wIfS, wB, wOp, wVar, wC, startE, asB, nm_dat, nm, oI, rdQ, rdL, rdT, wAsg, wgName, wgSub, wRet, wRetN, wNext, wDrop, wCall, wCB, wPar, wBM, wSl, wPart, wNoPart, wgTup, wgCons, wgNil, wCons, wNil, cInt, itR, itT, itS, itL, wiR1, wiR2, wiT, wiS, wiL, wLc_eq, wFor_eq, wYes, wipeE, oAdd_int, oEqA_int', oEqA_str', oNeA_str', CTrue, gGt, gMul, gMod, gPow, gDiv, gSub, gLt, gLe, gGe, gAdd, gNeg, gMax, gMin, gAbs, cI1, cI2, wUn, uI, wIf, wTru, asTru, truT, wNot, wAnd, wOr, wAndV, wOrV, wNotV, wLst, wTup, mkL, nm, wStarA, wRev, wPar3, wSetF, wFld, rdI, putT, wProp, wMake, wMeth, wSortSet, List.lookup]
  refine c_coin (k := k) rfl hp (by omega) (by decide) (by decide) fun r o1 r0 r1 p1 => ?_
  simp [DE.px, wSeq, wIfS, wB, wOp, wVar, wC, startE, asB, nm_dat, nm, oI, rdQ, rdL, rdT, wAsg, wgName, wgSub, wRet, wRetN, wNext, wDrop, wCall, wCB, wPar, wBM, wSl, wPart, wNoPart, wgTup, wgCons, wgNil, wCons, wNil, cInt, itR, itT, itS, itL, wiR1, wiR2, wiT, wiS, wiL, wLc_eq, wFor_eq, wYes, wipeE, oAdd_int, oEqA_int', oEqA_str', oNeA_str', CTrue, gGt, gMul, gMod, gPow, gDiv, gSub, gLt, gLe, gGe, gAdd, gNeg, gMax, gMin, gAbs, cI1, cI2, wUn, uI, wIf, wTru, asTru, truT, wNot, wAnd, wOr, wAndV, wOrV, wNotV, wLst, wTup, mkL, nm, wStarA, wRev, wPar3, wSetF, wFld, rdI, putT, wProp, wMake, wMeth, wSortSet, List.lookup]
  simp [w__law_qt_letters_4, DE.px, wSeq, wIfS, wB, wOp, wVar, wC, startE, asB, nm_dat, nm, oI, rdQ, rdL, rdT, wAsg, wgName, wgSub, wRet, wRetN, wNext, wDrop, wCall, wCB, wPar, wBM, wSl, wPart, wNoPart, wgTup, wgCons, wgNil, wCons, wNil, cInt, itR, itT, itS, itL, wiR1, wiR2, wiT, wiS, wiL, wLc_eq, wFor_eq, wYes, wipeE, oAdd_int, oEqA_int', oEqA_str', oNeA_str', CTrue, gGt, gMul, gMod, gPow, gDiv, gSub, gLt, gLe, gGe, gAdd, gNeg, gMax, gMin, gAbs, cI1, cI2, wUn, uI, wIf, wTru, asTru, truT, wNot, wAnd, wOr, wAndV, wOrV, wNotV, wLst, wTup, mkL, nm, wStarA, wRev, wPar3, wSetF, wFld, rdI, putT, wProp, wMake, wMeth, wSortSet, List.lookup]
  refine ⟨by omega, ?_⟩
  obtain ⟨a0, rfl⟩ : ∃ a0 : Nat, r = a0 := ⟨r.toNat, by omega⟩
  obtain ⟨Inv, hI⟩ : ∃ Inv : Nat → En → Mu → Prop, Inv = (fun (i : Nat) (env : En) (μ : Mu) => ∃ (a4 : Option T) (o : O) (at' : Nat) (as : List Nat), env = [some (.loc 0), some (.dat (.int (n : Nat))), some (.dat (.int (at' : Nat))), some (.loc 1), a4] ∧ μ = [o, .lst (as.map fun a => .dat (.str (tz [97 + a % 26])))] ∧ Pur (k + 1 + i) o ∧ as.length = i ∧ as.Pairwise (· < ·) ∧ (∀ a ∈ as, a0 ≤ a ∧ a < at') ∧ at' ≤ a0 + 5 * i ∧ (∀ a ∈ as, a < a0 + 26) ∧ a0 ≤ at') := ⟨_, rfl⟩
  refine ⟨Inv, by rw [hI]; exact ⟨none, o1, a0, [], rfl, rfl, by simpa using p1, rfl, List.Pairwise.nil, fun a m => by simp at m, by omega, fun a m => by simp at m, Nat.le_refl _⟩, fun _ _ _ _ _ => trivial, fun i env μ hi h => ?_, fun env μ h => ?_⟩
  · rw [hI] at h
    obtain ⟨a4, o2, at', as, rfl, rfl, p2, la, pw, lo, hi', up, ge⟩ := h
    have hi : i < n := hi
    simp [w__law_qt_letters_3, DE.px, wSeq, wIfS, wB, wOp, wVar, wC, startE, asB, nm_dat, nm, oI, rdQ, rdL, rdT, wAsg, wgName, wgSub, wRet, wRetN, wNext, wDrop, wCall, wCB, wPar, wBM, wSl, wPart, wNoPart, wgTup, wgCons, wgNil, wCons, wNil, cInt, itR, itT, itS, itL, wiR1, wiR2, wiT, wiS, wiL, wLc_eq, wFor_eq, wYes, wipeE, oAdd_int, oEqA_int', oEqA_str', oNeA_str', CTrue, gGt, gMul, gMod, gPow, gDiv, gSub, gLt, gLe, gGe, gAdd, gNeg, gMax, gMin, gAbs, cI1, cI2, wUn, uI, wIf, wTru, asTru, truT, wNot, wAnd, wOr, wAndV, wOrV, wNotV, wLst, wTup, mkL, nm, wStarA, wRev, wPar3, wSetF, wFld, rdI, putT, wProp, wMake, wMeth, wSortSet, List.lookup]
    refine ⟨tyT_live rfl, ?_⟩
    rw [letters_eq]
    refine oIx_strE (by decide) (Int.emod_nonneg _ (by decide)) (Int.emod_lt_of_pos _ (by decide)) ?_
    have el : letters.getD (((at' : Int) % 26).toNat) 0 = 97 + at' % 26 := by
      have e : ((at' : Int) % 26).toNat = at' % 26 := by omega
      have hall : ((List.range 26).all fun j => decide (letters.getD j 0 = 97 + j)) = true := by decide
      rw [e]
      exact of_decide_eq_true (List.all_eq_true.mp hall _ (List.mem_range.mpr (Nat.mod_lt _ (by decide))))
    rw [el]
    refine mAppend_live (ts := as.map fun a => .dat (.str (tz [97 + a % 26]))) rfl (by simp; omega) ?_
    simp [w__law_qt_letters_2, DE.px, wSeq, wIfS, wB, wOp, wVar, wC, startE, asB, nm_dat, nm, oI, rdQ, rdL, rdT, wAsg, wgName, wgSub, wRet, wRetN, wNext, wDrop, wCall, wCB, wPar, wBM, wSl, wPart, wNoPart, wgTup, wgCons, wgNil, wCons, wNil, cInt, itR, itT, itS, itL, wiR1, wiR2, wiT, wiS, wiL, wLc_eq, wFor_eq, wYes, wipeE, oAdd_int, oEqA_int', oEqA_str', oNeA_str', CTrue, gGt, gMul, gMod, gPow, gDiv, gSub, gLt, gLe, gGe, gAdd, gNeg, gMax, gMin, gAbs, cI1, cI2, wUn, uI, wIf, wTru, asTru, truT, wNot, wAnd, wOr, wAndV, wOrV, wNotV, wLst, wTup, mkL, nm, wStarA, wRev, wPar3, wSetF, wFld, rdI, putT, wProp, wMake, wMeth, wSortSet, List.lookup]
    refine c_coin (k := k + 1 + i) rfl p2 (by omega) (by decide) (by decide) fun s o3 s0 s1 p3 => ?_
    rw [oAdd_int]
    simp [DE.px, wSeq, wIfS, wB, wOp, wVar, wC, startE, asB, nm_dat, nm, oI, rdQ, rdL, rdT, wAsg, wgName, wgSub, wRet, wRetN, wNext, wDrop, wCall, wCB, wPar, wBM, wSl, wPart, wNoPart, wgTup, wgCons, wgNil, wCons, wNil, cInt, itR, itT, itS, itL, wiR1, wiR2, wiT, wiS, wiL, wLc_eq, wFor_eq, wYes, wipeE, oAdd_int, oEqA_int', oEqA_str', oNeA_str', CTrue, gGt, gMul, gMod, gPow, gDiv, gSub, gLt, gLe, gGe, gAdd, gNeg, gMax, gMin, gAbs, cI1, cI2, wUn, uI, wIf, wTru, asTru, truT, wNot, wAnd, wOr, wAndV, wOrV, wNotV, wLst, wTup, mkL, nm, wStarA, wRev, wPar3, wSetF, wFld, rdI, putT, wProp, wMake, wMeth, wSortSet, List.lookup]
    obtain ⟨s', rfl⟩ : ∃ s' : Nat, s = s' := ⟨s.toNat, by omega⟩
    rw [hI]
    refine ⟨_, o3, at' + 1 + s', as ++ [at'], rfl, by simp, by rw [show k + 1 + ((i + 1 : Nat) : Int) = k + 1 + i + 1 by omega]; exact p3, by simp [la], ?_, fun a m => ?_, by omega, fun a m => ?_, by omega⟩
    · rw [List.pairwise_append]
      exact ⟨pw, List.pairwise_singleton _ _, fun a ma b mb => by
        have : b = at' := by simpa using mb
        rw [this]
        exact (lo a ma).2⟩
    · rcases List.mem_append.mp m with m | m
      · have := lo a m; omega
      · have : a = at' := by simpa using m
        omega
    · rcases List.mem_append.mp m with m | m
      · exact up a m
      · have : a = at' := by simpa using m
        omega
  · rw [hI] at h
    obtain ⟨a4, o2, at', as, rfl, rfl, p2, la, pw, lo, hi', up, ge⟩ := h
    have la : as.length = n := la
    have p2 : Pur (k + 7) o2 := p2.mono (by show k + 1 + (((n : Int).toNat : Nat) : Int) ≤ _; omega)
    simp [w__law_qt_letters_1, DE.px, wSeq, wIfS, wB, wOp, wVar, wC, startE, asB, nm_dat, nm, oI, rdQ, rdL, rdT, wAsg, wgName, wgSub, wRet, wRetN, wNext, wDrop, wCall, wCB, wPar, wBM, wSl, wPart, wNoPart, wgTup, wgCons, wgNil, wCons, wNil, cInt, itR, itT, itS, itL, wiR1, wiR2, wiT, wiS, wiL, wLc_eq, wFor_eq, wYes, wipeE, oAdd_int, oEqA_int', oEqA_str', oNeA_str', CTrue, gGt, gMul, gMod, gPow, gDiv, gSub, gLt, gLe, gGe, gAdd, gNeg, gMax, gMin, gAbs, cI1, cI2, wUn, uI, wIf, wTru, asTru, truT, wNot, wAnd, wOr, wAndV, wOrV, wNotV, wLst, wTup, mkL, nm, wStarA, wRev, wPar3, wSetF, wFld, rdI, putT, wProp, wMake, wMeth, wSortSet, List.lookup]
    refine ⟨rfl, c_sortedLS (n := 1) (ts := as.map fun a => .dat (.str (tz [97 + a % 26]))) (zs := as.map fun a => tz [97 + a % 26]) rfl (by have := strsT_map [o2, .lst (as.map fun a => .dat (.str (tz [97 + a % 26])))] (as.map fun a => tz [97 + a % 26]); rw [List.map_map] at this; exact this) (by simp; omega) fun ys pm so => ?_⟩
    have hy : ∀ y ∈ ys, ∃ c, low c = true ∧ y = tz [c] := fun y hy => by
      obtain ⟨a, _, rfl⟩ := List.mem_map.mp (pm.mem_iff.mp hy)
      refine ⟨97 + a % 26, ?_, rfl⟩
      have := Nat.mod_lt a (show 0 < 26 by decide)
      unfold low
      simp
      omega
    obtain ⟨cs, rfl, lo'⟩ := strs_ones hy
    have pw1 := ones_sorted so
    have nd0 : (as.map fun a => tz [97 + a % 26]).Nodup := by
      rw [List.nodup_iff_pairwise_ne, List.pairwise_map]
      refine pw.imp_of_mem fun {a b} ma mb hab e => ?_
      have := (List.cons.inj (tz_inj.mp e)).1
      have := lo a ma
      have := lo b mb
      have := up a ma
      have := up b mb
      omega
    have nd : cs.Nodup := by
      have := pm.symm.nodup nd0
      rw [List.nodup_iff_pairwise_ne, List.pairwise_map] at this
      rw [List.nodup_iff_pairwise_ne]
      exact this.imp fun {a b} h e => h (by rw [e])
    have lc : cs.length = n := by
      have := pm.length_eq
      simp at this
      omega
    have ej : Txt.join (tz []) (cs.map fun c => tz [c]) = tz cs := by
      have := join_nil (cs.map fun c => [c])
      rw [flat_ones, List.map_map] at this
      exact this
    rw [empty_eq]
    refine mJoin_ok (a := tz []) rfl (xs := (cs.map fun c => tz [c]).map fun y => .dat (.str y)) (by simp [rdQ, rdL]) (strsT_map _ _) ?_ ?_
    · have : ((cs.map fun c => tz [c]).map (·.length)).sum = cs.length := by
        rw [List.map_map]
        have : (cs.map ((·.length) ∘ fun c => tz [c])) = cs.map fun _ => 1 := List.map_congr_left fun c _ => tz_len [c]
        rw [this]
        exact sum_ones cs
      rw [this, tz_len, List.length_map]
      show cs.length + cs.length * 0 ≤ _
      omega
    rw [ej]
    exact end_pur p2 fun p => hP _ _ p lo' (lt_of_le_nd pw1 nd) lc
theorem c_qt_letters {x n : Nat} {o : O} {k : Int} {μ : Mu} {P : KT} {PX : KX} (h : μ[x]? = some o) (hp : Pur k o) (hk : k < 2 ^ 38) (hn : n ≤ 6) (hP : ∀ o' l, Pur (k + 7) o' → Low l → l.Pairwise (· < ·) → l.length = n → P (.dat (.str (tz l))) (μ.set x o')) : callD (Dn 2 d__law_qt_letters) [.loc x, .dat (.int (n : Nat))] μ P PX := by
  refine call1 (ds := [.int (n : Nat)]) h hp.ren hp.nm ⟨rfl, o, k, n, rfl, rfl, hp, hk, hn, fun o' l p b1 b2 b3 => ?_⟩
  simpa [setAll, p.ren, T.ren] using hP o' l p b1 b2 b3
theorem cList_L {x : T} {ts : List T} {μ : Mu} {P : KT} (h : rdQ μ x = some ts) (hp : P (.loc μ.length) (μ ++ [.lst ts])) : cList [x] μ P := by
  simp only [cList, h]
  exact hp
def w__law_qt_copy : WpS := (wRet (wTup (wCons (wOp oIx (wVar 0) (wC (.int 0))) (wCons (wLc (wiA (wOp oIx (wVar 0) (wC (.int 1)))) (wgName 1) wYes (wCB cList (wCons (wVar 1) wNil)) [1]) (wCons (wCB cList (wCons (wOp oIx (wVar 0) (wC (.int 2))) wNil)) wNil)))))
def d__law_qt_copy : DSp := fun ts μ P _ => ∃ L R E, ts = [.dat (tabD L R E)] ∧ μ = [] ∧ R.length ≤ 1000 ∧ P (.loc 0) (tabM 0 L R E)
theorem p__law_qt_copy (ts : List T) (μ : Mu) (PT : KT) (PX : KX) (h : d__law_qt_copy ts μ PT PX) : w__law_qt_copy (DEof μ.length PT PX) (startE 2 ts) μ := by
  obtain ⟨L, R, E, rfl, rfl, rl, hP⟩ := h
  have hsz := sizeLine_ge
  simp [w__law_qt_copy, DE.px, wSeq, wIfS, wB, wOp, wVar, wC, startE, asB, nm_dat, nm, oI, rdQ, rdL, rdT, wAsg, wgName, wgSub, wRet, wRetN, wNext, wDrop, wCall, wCB, wPar, wBM, wSl, wPart, wNoPart, wgTup, wgCons, wgNil, wCons, wNil, cInt, itR, itT, itS, itL, wiR1, wiR2, wiT, wiS, wiL, wLc_eq, wFor_eq, wYes, wipeE, oAdd_int, oEqA_int', oEqA_str', oNeA_str', CTrue, gGt, gMul, gMod, gPow, gDiv, gSub, gLt, gLe, gGe, gAdd, gNeg, gMax, gMin, gAbs, cI1, cI2, wUn, uI, wIf, wTru, asTru, truT, wNot, wAnd, wOr, wAndV, wOrV, wNotV, wLst, wTup, mkL, nm, wStarA, wRev, wPar3, wSetF, wFld, rdI, putT, wProp, wMake, wMeth, wSortSet, List.lookup]
  refine (oIxS0 _ _ _ _ _).mpr ?_
  refine wiA_L (t := .dat (.list (rwD R))) (ts := (rwD R).map .dat) (μ1 := []) (fun Q hQ => ?_) rfl ?_
  · simp [DE.px, wSeq, wIfS, wB, wOp, wVar, wC, startE, asB, nm_dat, nm, oI, rdQ, rdL, rdT, wAsg, wgName, wgSub, wRet, wRetN, wNext, wDrop, wCall, wCB, wPar, wBM, wSl, wPart, wNoPart, wgTup, wgCons, wgNil, wCons, wNil, cInt, itR, itT, itS, itL, wiR1, wiR2, wiT, wiS, wiL, wLc_eq, wFor_eq, wYes, wipeE, oAdd_int, oEqA_int', oEqA_str', oNeA_str', CTrue, gGt, gMul, gMod, gPow, gDiv, gSub, gLt, gLe, gGe, gAdd, gNeg, gMax, gMin, gAbs, cI1, cI2, wUn, uI, wIf, wTru, asTru, truT, wNot, wAnd, wOr, wAndV, wOrV, wNotV, wLst, wTup, mkL, nm, wStarA, wRev, wPar3, wSetF, wFld, rdI, putT, wProp, wMake, wMeth, wSortSet, List.lookup]
    exact (oIxS1 _ _ _ _ _).mpr hQ
  refine ⟨fun i acc μ => μ = (R.take i).map (fun r => O.lst (dsi r)) ∧ acc = (List.range i).map T.loc, ⟨rfl, rfl⟩, fun _ _ _ _ _ => rfl, fun i acc μ hi h => ?_, fun acc μ h => ?_⟩
  · obtain ⟨rfl, rfl⟩ := h
    have hi : i < ((rwD R).map T.dat).length := hi
    have hR : i < R.length := by simpa using hi
    refine ⟨.dat (.list (inz R[i])), by simp [rwD, hR], ?_⟩
    simp [DE.px, wSeq, wIfS, wB, wOp, wVar, wC, startE, asB, nm_dat, nm, oI, rdQ, rdL, rdT, wAsg, wgName, wgSub, wRet, wRetN, wNext, wDrop, wCall, wCB, wPar, wBM, wSl, wPart, wNoPart, wgTup, wgCons, wgNil, wCons, wNil, cInt, itR, itT, itS, itL, wiR1, wiR2, wiT, wiS, wiL, wLc_eq, wFor_eq, wYes, wipeE, oAdd_int, oEqA_int', oEqA_str', oNeA_str', CTrue, gGt, gMul, gMod, gPow, gDiv, gSub, gLt, gLe, gGe, gAdd, gNeg, gMax, gMin, gAbs, cI1, cI2, wUn, uI, wIf, wTru, asTru, truT, wNot, wAnd, wOr, wAndV, wOrV, wNotV, wLst, wTup, mkL, nm, wStarA, wRev, wPar3, wSetF, wFld, rdI, putT, wProp, wMake, wMeth, wSortSet, List.lookup]
    refine cList_L (rdQ_inz _ _) ?_
    refine ⟨by omega, ?_, ?_⟩
    · rw [List.take_succ, List.getElem?_map, List.getElem?_eq_getElem hR]
      rfl
    · rw [List.range_succ, List.map_append]
      simp
      omega
  · obtain ⟨rfl, rfl⟩ := h
    have e : (itL (.dat (.list (rwD R))) ((rwD R).map T.dat)).n = R.length := by show ((rwD R).map T.dat).length = _; simp
    rw [e, List.take_of_length_le (Nat.le_refl _)]
    simp [mkL, DE.px, wSeq, wIfS, wB, wOp, wVar, wC, startE, asB, nm_dat, nm, oI, rdQ, rdL, rdT, wAsg, wgName, wgSub, wRet, wRetN, wNext, wDrop, wCall, wCB, wPar, wBM, wSl, wPart, wNoPart, wgTup, wgCons, wgNil, wCons, wNil, cInt, itR, itT, itS, itL, wiR1, wiR2, wiT, wiS, wiL, wLc_eq, wFor_eq, wYes, wipeE, oAdd_int, oEqA_int', oEqA_str', oNeA_str', CTrue, gGt, gMul, gMod, gPow, gDiv, gSub, gLt, gLe, gGe, gAdd, gNeg, gMax, gMin, gAbs, cI1, cI2, wUn, uI, wIf, wTru, asTru, truT, wNot, wAnd, wOr, wAndV, wOrV, wNotV, wLst, wTup, mkL, nm, wStarA, wRev, wPar3, wSetF, wFld, rdI, putT, wProp, wMake, wMeth, wSortSet, List.lookup]
    refine (oIxS2 _ _ _ _ _).mpr ?_
    refine cList_L (rdQ_inz _ _) ?_
    obtain ⟨rows, hrows⟩ : ∃ rows, rows = R.map (fun r => O.lst (dsi r)) := ⟨_, rfl⟩
    have lrows : rows.length = R.length := by rw [hrows]; simp
    rw [← hrows]
    have e1 : (rows ++ [O.lst ((List.range R.length).map T.loc)]).length = R.length + 1 := by simp [lrows]
    rw [e1]
    have g0 : ∀ {i : Nat} {u : O}, rows[i]? = some u → ∀ g : Mu, (rows ++ g)[i]? = some u := fun h g => by
      rw [List.getElem?_append_left (List.getElem?_eq_some_iff.mp h).1]
      exact h
    have g1 : ∀ (i : Nat) (g : Mu), (rows ++ g)[R.length + i]? = g[i]? := fun i g => by
      rw [List.getElem?_append_right (by omega), lrows, Nat.add_sub_cancel_left]
    refine ⟨by omega, mkT_live (n := R.length) (o := .lst ((List.range R.length).map T.loc)) (by simp) (by rw [List.append_assoc]; exact g1 0 _) (fun d z => nomatch z) ?_⟩
    have e2 : (rows ++ [O.lst ((List.range R.length).map T.loc)] ++ [O.lst (dsi E)]).length = R.length + 2 := by simp [lrows]
    rw [e2]
    simp only [List.append_assoc, List.cons_append, List.nil_append]
    refine end_tab0 (r := R.length) (e := R.length + 1) (ls := List.range R.length) (L := L) (E := E) (R := R) ⟨g1 2 _, g1 0 _, g1 1 _, by simp, fun i l q hi hq => ?_⟩ ?_ hP
    · have li : i < R.length := (List.getElem?_eq_some_iff.mp hq).1
      have el : l = i := by
        rw [List.getElem?_range li] at hi
        cases hi
        rfl
      subst el
      refine g0 ?_ _
      rw [hrows, List.getElem?_map, hq]
      rfl
    · simp only [List.nodup_cons, List.mem_cons, List.mem_range, not_or]
      exact ⟨⟨by omega, by omega, by omega⟩, ⟨by omega, by omega⟩, by omega, List.nodup_range⟩
theorem c_qt_copy {t : T} {L : List Nat} {R : Rows} {E : List Nat} {μ : Mu} {P : KT} {PX : KX} (h : toD 8 μ t = some (tabD L R E)) (rl : R.length ≤ 1000) (hP : P (.loc μ.length) (μ ++ tabM μ.length L R E)) : callD (Dn 1 d__law_qt_copy) [t] μ P PX :=
  callL0 (ds := [tabD L R E]) (by simp [toDs, h]) fun PT PX' k _ => ⟨rfl, L, R, E, rfl, rfl, rl, k_tab k hP⟩
/-! ### a table spoilt -/
end DL
/-! TB9: tables drawn. -/
namespace DL
open PySem PySem.Spec L2
open Tb (Rows Gt Lq)
abbrev shS (o : O) (R : Rows) (g : Mu) : Mu := o :: .lst ((List.range R.length).map fun i => .loc (2 + i)) :: (R.map (fun r => O.lst (dsi r)) ++ g)
def w__law_qt_sheet_1 : WpS := (wRet (wTup (wCons (wVar 1) (wCons (wVar 4) (wCons (wVar 7) wNil)))))
def w__law_qt_sheet_2 : WpS := (wSeq (wAsg (wLc (wiR1 (wCons (wVar 3) wNil)) (wgName 8) (wB (wOp oEqA (wCall (Dn 2 d__law_coin) (wCons (wVar 0) (wCons (wVar 6) wNil))) (wC (.int 0)))) (wVar 8) [8]) (wgName 7))
    w__law_qt_sheet_1)
def w__law_qt_sheet_3 : WpS := (wSeq (wAsg (wOp oAdd (wC (.int 2)) (wCall (Dn 2 d__law_coin) (wCons (wVar 0) (wCons (wC (.int 3)) wNil)))) (wgName 6))
    w__law_qt_sheet_2)
def w__law_qt_sheet_4 : WpS := (wDrop (wBM "list" mAppend (wVar 4) (wCons (wLc (wiA (wVar 1)) (wgName 9) wYes (wCall (Dn 2 d__law_coin) (wCons (wVar 0) (wCons (wVar 3) wNil))) [9]) wNil)))
def w__law_qt_sheet_5 : WpS := (wSeq (wFor (wiR1 (wCons (wVar 3) wNil)) (wgName 5) w__law_qt_sheet_4)
    w__law_qt_sheet_3)
def w__law_qt_sheet_6 : WpS := (wSeq (wAsg (wLst wNil) (wgName 4))
    w__law_qt_sheet_5)
def w__law_qt_sheet : WpS := (wSeq (wAsg (wOp oAdd (wC (.int 1)) (wCall (Dn 2 d__law_coin) (wCons (wVar 0) (wCons (wVar 2) wNil)))) (wgName 3))
    w__law_qt_sheet_6)
def d__law_qt_sheet : DSp := fun ts μ P _ => ∃ (o : O) (k : Int) (L : List Nat) (high : Nat), ts = [.loc 0, .dat (.str (tz L)), .dat (.int (high : Nat))] ∧ μ = [o] ∧ Pur k o ∧ k < 2 ^ 36 ∧ Low L ∧ L.Pairwise (· < ·) ∧ L.length ≤ 6 ∧ 1 ≤ high ∧ high ≤ 36 ∧ ∀ o' R E, Pur (k + 400) o' → Tok L R E → R.length ≤ high → P (.loc 1) (o' :: tabM 1 L R E)
theorem p__law_qt_sheet (ts : List T) (μ : Mu) (PT : KT) (PX : KX) (h : d__law_qt_sheet ts μ PT PX) : w__law_qt_sheet (DEof μ.length PT PX) (startE 10 ts) μ := by
  obtain ⟨o, k, L, high, rfl, rfl, hp, hk, low, asc, lL, h1, h2, hP⟩ := h
  have hs := sizeLine_ge
  simp [w__law_qt_sheet, DE.px, wSeq, wIfS, wB, wOp, wVar, wC, startE, asB, nm_dat, nm, oI, rdQ, rdL, rdT, wAsg, wgName, wgSub, wRet, wRetN, wNext, wDrop, wCall, wCB, wPar, wBM, wSl, wPart, wNoPart, wgTup, wgCons, wgNil, wCons, wNil, cInt, itR, itT, itS, itL, wiR1, wiR2, wiT, wiS, wiL, wLc_eq, wFor_eq, wYes, wipeE, oAdd_int, oEqA_int', oEqA_str', oNeA_str', CTrue, gGt, gMul, gMod, gPow, gDiv, gSub, gLt, gLe, gGe, gAdd, gNeg, gMax, gMin, gAbs, cI1, cI2, wUn, uI, wIf, wTru, asTru, truT, wNot, wAnd, wOr, wAndV, wOrV, wNotV, wLst, wTup, mkL, nm, wStarA, wRev, wPar3, wSetF, wFld, rdI, putT, wProp, wMake, wMeth, wSortSet, List.lookup]
  refine c_coin (k := k) rfl hp (by omega) (by omega) (by omega) fun r o1 r0 r1 p1 => ?_
  simp [DE.px, wSeq, wIfS, wB, wOp, wVar, wC, startE, asB, nm_dat, nm, oI, rdQ, rdL, rdT, wAsg, wgName, wgSub, wRet, wRetN, wNext, wDrop, wCall, wCB, wPar, wBM, wSl, wPart, wNoPart, wgTup, wgCons, wgNil, wCons, wNil, cInt, itR, itT, itS, itL, wiR1, wiR2, wiT, wiS, wiL, wLc_eq, wFor_eq, wYes, wipeE, oAdd_int, oEqA_int', oEqA_str', oNeA_str', CTrue, gGt, gMul, gMod, gPow, gDiv, gSub, gLt, gLe, gGe, gAdd, gNeg, gMax, gMin, gAbs, cI1, cI2, wUn, uI, wIf, wTru, asTru, truT, wNot, wAnd, wOr, wAndV, wOrV, wNotV, wLst, wTup, mkL, nm, wStarA, wRev, wPar3, wSetF, wFld, rdI, putT, wProp, wMake, wMeth, wSortSet, List.lookup]
  obtain ⟨n, en⟩ : ∃ n : Nat, (1 + r : Int) = n := ⟨(1 + r).toNat, by omega⟩
  rw [en]
  have n1 : 1 ≤ n := by omega
  have n2 : n ≤ high := by omega
  simp [w__law_qt_sheet_6, DE.px, wSeq, wIfS, wB, wOp, wVar, wC, startE, asB, nm_dat, nm, oI, rdQ, rdL, rdT, wAsg, wgName, wgSub, wRet, wRetN, wNext, wDrop, wCall, wCB, wPar, wBM, wSl, wPart, wNoPart, wgTup, wgCons, wgNil, wCons, wNil, cInt, itR, itT, itS, itL, wiR1, wiR2, wiT, wiS, wiL, wLc_eq, wFor_eq, wYes, wipeE, oAdd_int, oEqA_int', oEqA_str', oNeA_str', CTrue, gGt, gMul, gMod, gPow, gDiv, gSub, gLt, gLe, gGe, gAdd, gNeg, gMax, gMin, gAbs, cI1, cI2, wUn, uI, wIf, wTru, asTru, truT, wNot, wAnd, wOr, wAndV, wOrV, wNotV, wLst, wTup, mkL, nm, wStarA, wRev, wPar3, wSetF, wFld, rdI, putT, wProp, wMake, wMeth, wSortSet, List.lookup]
  simp [w__law_qt_sheet_5, DE.px, wSeq, wIfS, wB, wOp, wVar, wC, startE, asB, nm_dat, nm, oI, rdQ, rdL, rdT, wAsg, wgName, wgSub, wRet, wRetN, wNext, wDrop, wCall, wCB, wPar, wBM, wSl, wPart, wNoPart, wgTup, wgCons, wgNil, wCons, wNil, cInt, itR, itT, itS, itL, wiR1, wiR2, wiT, wiS, wiL, wLc_eq, wFor_eq, wYes, wipeE, oAdd_int, oEqA_int', oEqA_str', oNeA_str', CTrue, gGt, gMul, gMod, gPow, gDiv, gSub, gLt, gLe, gGe, gAdd, gNeg, gMax, gMin, gAbs, cI1, cI2, wUn, uI, wIf, wTru, asTru, truT, wNot, wAnd, wOr, wAndV, wOrV, wNotV, wLst, wTup, mkL, nm, wStarA, wRev, wPar3, wSetF, wFld, rdI, putT, wProp, wMake, wMeth, wSortSet, List.lookup]
  refine ⟨by omega, ?_⟩
  obtain ⟨Inv, hI⟩ : ∃ Inv : Nat → En → Mu → Prop, Inv = (fun (i : Nat) (env : En) (μ : Mu) => ∃ (a5 : Option T) (o : O) (R : Rows), env = [some (.loc 0), some (.dat (.str (tz L))), some (.dat (.int (high : Nat))), some (.dat (.int (n : Nat))), some (.loc 1), a5, none, none, none, none] ∧ μ = shS o R [] ∧ Pur (k + 1 + 6 * i) o ∧ R.length = i ∧ ∀ q ∈ R, q.length = L.length ∧ ∀ x ∈ q, x < n) := ⟨_, rfl⟩
  refine ⟨Inv, by rw [hI]; exact ⟨_, o1, [], rfl, rfl, by simpa using p1, rfl, fun q m => by simp at m⟩, fun _ _ _ _ _ => trivial, fun i env μ hi h => ?_, fun env μ h => ?_⟩
  · rw [hI] at h
    obtain ⟨a5, o2, R, rfl, rfl, p2, lR, hR⟩ := h
    have hi : i < n := hi
    simp [w__law_qt_sheet_4, DE.px, wSeq, wIfS, wB, wOp, wVar, wC, startE, asB, nm_dat, nm, oI, rdQ, rdL, rdT, wAsg, wgName, wgSub, wRet, wRetN, wNext, wDrop, wCall, wCB, wPar, wBM, wSl, wPart, wNoPart, wgTup, wgCons, wgNil, wCons, wNil, cInt, itR, itT, itS, itL, wiR1, wiR2, wiT, wiS, wiL, wLc_eq, wFor_eq, wYes, wipeE, oAdd_int, oEqA_int', oEqA_str', oNeA_str', CTrue, gGt, gMul, gMod, gPow, gDiv, gSub, gLt, gLe, gGe, gAdd, gNeg, gMax, gMin, gAbs, cI1, cI2, wUn, uI, wIf, wTru, asTru, truT, wNot, wAnd, wOr, wAndV, wOrV, wNotV, wLst, wTup, mkL, nm, wStarA, wRev, wPar3, wSetF, wFld, rdI, putT, wProp, wMake, wMeth, wSortSet, List.lookup]
    refine ⟨tyT_live rfl, ?_⟩
    refine wiA_S (z := tz L) (var_q rfl) ?_
    obtain ⟨Jnv, hJ⟩ : ∃ Jnv : Nat → List T → Mu → Prop, Jnv = (fun (j : Nat) acc μ => ∃ (o : O) (xs : List Nat), μ = shS o R [] ∧ acc = dsi xs ∧ Pur (k + 1 + 6 * i + j) o ∧ xs.length = j ∧ ∀ x ∈ xs, x < n) := ⟨_, rfl⟩
    refine ⟨Jnv, by rw [hJ]; exact ⟨o2, [], by simp [shS], rfl, by simpa using p2, rfl, fun x m => by simp at m⟩, fun _ _ _ _ _ => trivial, fun j acc μ hj h => ?_, fun acc μ h => ?_⟩
    · rw [hJ] at h
      obtain ⟨o3, xs, rfl, rfl, p3, lx, hx⟩ := h
      have hj : j < (tz L).cps.size := hj
      have hj : j < L.length := hj
      refine ⟨L[j], by show L.toArray[j]? = _; rw [List.getElem?_toArray]; exact List.getElem?_eq_getElem hj, ?_⟩
      simp [DE.px, wSeq, wIfS, wB, wOp, wVar, wC, startE, asB, nm_dat, nm, oI, rdQ, rdL, rdT, wAsg, wgName, wgSub, wRet, wRetN, wNext, wDrop, wCall, wCB, wPar, wBM, wSl, wPart, wNoPart, wgTup, wgCons, wgNil, wCons, wNil, cInt, itR, itT, itS, itL, wiR1, wiR2, wiT, wiS, wiL, wLc_eq, wFor_eq, wYes, wipeE, oAdd_int, oEqA_int', oEqA_str', oNeA_str', CTrue, gGt, gMul, gMod, gPow, gDiv, gSub, gLt, gLe, gGe, gAdd, gNeg, gMax, gMin, gAbs, cI1, cI2, wUn, uI, wIf, wTru, asTru, truT, wNot, wAnd, wOr, wAndV, wOrV, wNotV, wLst, wTup, mkL, nm, wStarA, wRev, wPar3, wSetF, wFld, rdI, putT, wProp, wMake, wMeth, wSortSet, List.lookup]
      refine c_coin (k := k + 1 + 6 * i + j) rfl p3 (by omega) (by omega) (by omega) fun s o4 s0 s1 p4 => ?_
      obtain ⟨s', rfl⟩ : ∃ s' : Nat, s = s' := ⟨s.toNat, by omega⟩
      rw [hJ]
      refine ⟨by rw [dsi_len]; omega, o4, xs ++ [s'], by simp [shS], by rw [← dsi_app]; rfl, by rw [show k + 1 + 6 * (i : Int) + ((j + 1 : Nat) : Int) = k + 1 + 6 * i + j + 1 by omega]; exact p4, by simp [lx], fun x m => ?_⟩
      rcases List.mem_append.mp m with m | m
      · exact hx x m
      · have : x = s' := by simpa using m
        omega
    · rw [hJ] at h
      obtain ⟨o3, xs, rfl, rfl, p3, lx, hx⟩ := h
      have lx : xs.length = L.length := lx
      have p3 : Pur (k + 1 + 6 * ((i + 1 : Nat) : Int)) o3 := p3.mono (by show k + 1 + 6 * (i : Int) + ((L.length : Nat) : Int) ≤ _; omega)
      have el : (shS o3 R []).length = 2 + R.length := by simp [shS]; omega
      unfold mkL
      rw [el]
      refine mAppend_live (ts := (List.range R.length).map fun i => .loc (2 + i)) rfl (by simp; omega) ?_
      rw [hI]
      refine ⟨_, o3, R ++ [xs], rfl, ?_, p3, by simp [lR], fun q m => ?_⟩
      · simp [shS, List.range_succ]
      · rcases List.mem_append.mp m with m | m
        · exact hR q m
        · have : q = xs := by simpa using m
          rw [this]
          exact ⟨lx, hx⟩
  · rw [hI] at h
    obtain ⟨a5, o2, R, rfl, rfl, p2, lR, hR⟩ := h
    have lR : R.length = n := lR
    have p2 : Pur (k + 300) o2 := p2.mono (by show k + 1 + 6 * ((n : Nat) : Int) ≤ _; omega)
    simp [w__law_qt_sheet_3, DE.px, wSeq, wIfS, wB, wOp, wVar, wC, startE, asB, nm_dat, nm, oI, rdQ, rdL, rdT, wAsg, wgName, wgSub, wRet, wRetN, wNext, wDrop, wCall, wCB, wPar, wBM, wSl, wPart, wNoPart, wgTup, wgCons, wgNil, wCons, wNil, cInt, itR, itT, itS, itL, wiR1, wiR2, wiT, wiS, wiL, wLc_eq, wFor_eq, wYes, wipeE, oAdd_int, oEqA_int', oEqA_str', oNeA_str', CTrue, gGt, gMul, gMod, gPow, gDiv, gSub, gLt, gLe, gGe, gAdd, gNeg, gMax, gMin, gAbs, cI1, cI2, wUn, uI, wIf, wTru, asTru, truT, wNot, wAnd, wOr, wAndV, wOrV, wNotV, wLst, wTup, mkL, nm, wStarA, wRev, wPar3, wSetF, wFld, rdI, putT, wProp, wMake, wMeth, wSortSet, List.lookup]
    refine c_coin (k := k + 300) rfl p2 (by omega) (by decide) (by decide) fun s o3 s0 s1 p3 => ?_
    rw [oAdd_int]
    simp [DE.px, wSeq, wIfS, wB, wOp, wVar, wC, startE, asB, nm_dat, nm, oI, rdQ, rdL, rdT, wAsg, wgName, wgSub, wRet, wRetN, wNext, wDrop, wCall, wCB, wPar, wBM, wSl, wPart, wNoPart, wgTup, wgCons, wgNil, wCons, wNil, cInt, itR, itT, itS, itL, wiR1, wiR2, wiT, wiS, wiL, wLc_eq, wFor_eq, wYes, wipeE, oAdd_int, oEqA_int', oEqA_str', oNeA_str', CTrue, gGt, gMul, gMod, gPow, gDiv, gSub, gLt, gLe, gGe, gAdd, gNeg, gMax, gMin, gAbs, cI1, cI2, wUn, uI, wIf, wTru, asTru, truT, wNot, wAnd, wOr, wAndV, wOrV, wNotV, wLst, wTup, mkL, nm, wStarA, wRev, wPar3, wSetF, wFld, rdI, putT, wProp, wMake, wMeth, wSortSet, List.lookup]
    simp [w__law_qt_sheet_2, DE.px, wSeq, wIfS, wB, wOp, wVar, wC, startE, asB, nm_dat, nm, oI, rdQ, rdL, rdT, wAsg, wgName, wgSub, wRet, wRetN, wNext, wDrop, wCall, wCB, wPar, wBM, wSl, wPart, wNoPart, wgTup, wgCons, wgNil, wCons, wNil, cInt, itR, itT, itS, itL, wiR1, wiR2, wiT, wiS, wiL, wLc_eq, wFor_eq, wYes, wipeE, oAdd_int, oEqA_int', oEqA_str', oNeA_str', CTrue, gGt, gMul, gMod, gPow, gDiv, gSub, gLt, gLe, gGe, gAdd, gNeg, gMax, gMin, gAbs, cI1, cI2, wUn, uI, wIf, wTru, asTru, truT, wNot, wAnd, wOr, wAndV, wOrV, wNotV, wLst, wTup, mkL, nm, wStarA, wRev, wPar3, wSetF, wFld, rdI, putT, wProp, wMake, wMeth, wSortSet, List.lookup]
    refine ⟨by omega, ?_⟩
    obtain ⟨Jnv, hJ⟩ : ∃ Jnv : Nat → List T → Mu → Prop, Jnv = (fun (j : Nat) acc μ => ∃ (o : O) (xs : List Nat), μ = shS o R [] ∧ acc = dsi xs ∧ Pur (k + 301 + j) o ∧ xs.Pairwise (· < ·) ∧ (∀ x ∈ xs, x < j) ∧ j ≤ n) := ⟨_, rfl⟩
    refine ⟨Jnv, by rw [hJ]; exact ⟨o3, [], by simp [shS], rfl, by rw [show k + 301 + ((0 : Nat) : Int) = k + 300 + 1 by omega]; exact p3, List.Pairwise.nil, fun x m => by simp at m, Nat.zero_le _⟩, fun _ _ _ _ _ => trivial, fun j acc μ hj h => ?_, fun acc μ h => ?_⟩
    · rw [hJ] at h
      obtain ⟨o4, xs, rfl, rfl, p4, pw, hx, jn⟩ := h
      have hj : j < n := hj
      simp [DE.px, wSeq, wIfS, wB, wOp, wVar, wC, startE, asB, nm_dat, nm, oI, rdQ, rdL, rdT, wAsg, wgName, wgSub, wRet, wRetN, wNext, wDrop, wCall, wCB, wPar, wBM, wSl, wPart, wNoPart, wgTup, wgCons, wgNil, wCons, wNil, cInt, itR, itT, itS, itL, wiR1, wiR2, wiT, wiS, wiL, wLc_eq, wFor_eq, wYes, wipeE, oAdd_int, oEqA_int', oEqA_str', oNeA_str', CTrue, gGt, gMul, gMod, gPow, gDiv, gSub, gLt, gLe, gGe, gAdd, gNeg, gMax, gMin, gAbs, cI1, cI2, wUn, uI, wIf, wTru, asTru, truT, wNot, wAnd, wOr, wAndV, wOrV, wNotV, wLst, wTup, mkL, nm, wStarA, wRev, wPar3, wSetF, wFld, rdI, putT, wProp, wMake, wMeth, wSortSet, List.lookup]
      refine c_coin (k := k + 301 + j) rfl p4 (by omega) (by omega) (by omega) fun t o5 t0 t1 p5 => ?_
      rw [oEqA_int']
      have p5 : Pur (k + 301 + ((j + 1 : Nat) : Int)) o5 := by rw [show k + 301 + ((j + 1 : Nat) : Int) = k + 301 + j + 1 by omega]; exact p5
      have xl := asc_len pw hx
      by_cases c : t = 0
      · simp [c, asB, nm]
        rw [hJ]
        refine ⟨by rw [dsi_len]; omega, o5, xs ++ [j], by simp [shS], by rw [← dsi_app]; rfl, p5, ?_, fun x m => ?_, by omega⟩
        · rw [List.pairwise_append]
          exact ⟨pw, List.pairwise_singleton _ _, fun a ma b mb => by
            have : b = j := by simpa using mb
            rw [this]
            exact hx a ma⟩
        · rcases List.mem_append.mp m with m | m
          · have := hx x m; omega
          · have : x = j := by simpa using m
            omega
      · simp [c, asB, nm]
        rw [hJ]
        exact ⟨o5, xs, by simp [shS], rfl, p5, pw, fun x m => by have := hx x m; omega, by omega⟩
    · rw [hJ] at h
      obtain ⟨o4, xs, rfl, rfl, p4, pw, hx, jn⟩ := h
      have p4 : Pur (k + 400) o4 := p4.mono (by show k + 301 + ((n : Nat) : Int) ≤ _; omega)
      have hx : ∀ x ∈ xs, x < n := hx
      unfold mkL
      have el : (shS o4 R []).length = 2 + n := by simp [shS]; omega
      rw [el]
      simp [w__law_qt_sheet_1, DE.px, wSeq, wIfS, wB, wOp, wVar, wC, startE, asB, nm_dat, nm, oI, rdQ, rdL, rdT, wAsg, wgName, wgSub, wRet, wRetN, wNext, wDrop, wCall, wCB, wPar, wBM, wSl, wPart, wNoPart, wgTup, wgCons, wgNil, wCons, wNil, cInt, itR, itT, itS, itL, wiR1, wiR2, wiT, wiS, wiL, wLc_eq, wFor_eq, wYes, wipeE, oAdd_int, oEqA_int', oEqA_str', oNeA_str', CTrue, gGt, gMul, gMod, gPow, gDiv, gSub, gLt, gLe, gGe, gAdd, gNeg, gMax, gMin, gAbs, cI1, cI2, wUn, uI, wIf, wTru, asTru, truT, wNot, wAnd, wOr, wAndV, wOrV, wNotV, wLst, wTup, mkL, nm, wStarA, wRev, wPar3, wSetF, wFld, rdI, putT, wProp, wMake, wMeth, wSortSet, List.lookup]
      refine ⟨by omega, mkT_live (n := 1) (by simp) rfl (fun d z => nomatch z) ?_⟩
      have tok : Tok L R xs := ⟨low, asc, ⟨by omega, fun q m => (hR q m).1, fun q m x mx => by rw [lR]; exact (hR q m).2 x mx⟩, by omega, pw, fun x m => by rw [lR]; exact hx x m⟩
      obtain ⟨ν, hν⟩ : ∃ ν : Mu, ν = o4 :: .lst ((List.range R.length).map fun i => T.loc (2 + i)) :: (R.map (fun r => O.lst (dsi r)) ++ [.lst (dsi xs)]) := ⟨_, rfl⟩
      rw [← hν]
      have lν : ν.length = n + 3 := by rw [hν]; simp [lR]
      have gR : ∀ i, ν[2 + i]? = (R.map (fun r => O.lst (dsi r)) ++ [O.lst (dsi xs)])[i]? := fun i => by rw [hν, Nat.add_comm]; rfl
      have up : ∀ {n : Nat} {o : O} (g : Mu), ν[n]? = some o → (ν ++ g)[n]? = some o := fun g h => by
        rw [List.getElem?_append_left (List.getElem?_eq_some_iff.mp h).1]
        exact h
      refine end_tab1 (t := ν.length) (r := 1) (e := 2 + n) (ls := (List.range R.length).map fun i => 2 + i) (L := L) (R := R) (E := xs) (o := o4) (up _ (by rw [hν]; rfl)) p4.ren ⟨at_end, up _ (by rw [hν, List.map_map]; rfl), up _ ?_, by simp, fun i l q hi hq => up _ ?_⟩ ?_ (hP _ _ _ p4 tok (by omega))
      · rw [gR, List.getElem?_append_right (by simp; omega)]
        simp [lR]
      · have li : i < R.length := (List.getElem?_eq_some_iff.mp hq).1
        have el : l = 2 + i := by
          rw [List.getElem?_map, List.getElem?_range li] at hi
          simp at hi
          omega
        subst el
        rw [gR, List.getElem?_append_left (by simpa using li), List.getElem?_map, hq]
        rfl
      · have hm : ∀ x ∈ (List.range R.length).map (fun i => 2 + i), 2 ≤ x ∧ x < 2 + n := fun x m => by
          simp at m
          omega
        rw [lν]
        simp only [List.nodup_cons, List.mem_cons, not_or]
        refine ⟨⟨by omega, by omega, by omega, fun m => ?_⟩, ⟨by omega, by omega, fun m => ?_⟩, ⟨by omega, fun m => ?_⟩, fun m => ?_, ?_⟩
        · have := hm _ m; omega
        · have := hm _ m; omega
        · have := hm _ m; omega
        · have := hm _ m; omega
        · exact List.pairwise_map.mpr (List.nodup_range.imp fun {a b} z e => z (by omega))
/-- a call with a purse and lent data that gets a table back -/
theorem call_pt {dsp : DSp} {x : Nat} {o : O} {args : List T} {ds : List PyData} {μ : Mu} {P : KT} {PX : KX} (h : μ[x]? = some o) (ho : ∀ f, O.ren f o = o) (hf : ∀ d, o ≠ .frz d) (ha : toDs 8 (mask [x] μ) args = some ds) (hn : ∀ t ∈ args, nm μ t = t)
    (hd : ∀ PT PX', (∀ o' L R E, AtO o' → (∀ f, O.ren f o' = o') → P (.loc μ.length) (μ.set x o' ++ tabM μ.length L R E) → PT (.loc 1) (o' :: tabM 1 L R E)) → dsp (.loc 0 :: ds.map .dat) [o] PT PX') : callD dsp (.loc x :: args) μ P PX := by
  have lx := (List.getElem?_eq_some_iff.mp h).1
  have bas : ∀ (ts : List T) (ds : List PyData), (∀ t ∈ ts, nm μ t = t) → toDs 8 (mask [x] μ) ts = some ds → Paired (BA [x] μ) (ts.map (nm μ)) (ds.map .dat) := fun ts => by
    induction ts with
    | nil =>
      intro ds _ e
      simp [toDs] at e
      subst e
      exact .nil
    | cons t ts ih =>
      intro ds hn e
      rw [toDs] at e
      split at e
      · rename_i d ds' e1 e2
        cases e
        exact .cons (ba_dat e1 (hn t List.mem_cons_self)) (ih ds' (fun u m => hn u (List.mem_cons_of_mem _ m)) e2)
      · cases e
  refine callLV (V := [x]) (view1 h ho) (args0 := .loc 0 :: ds.map .dat) ?_ fun PT PX' k _ => hd PT PX' fun o' L R E a1 a2 hP => ?_
  · refine .cons (ba_same ?_) (bas args ds hn ha)
    rw [nm_loc h hf]
    simp [T.ren, fV]
  · refine k _ _ trivial (fun u m => ?_) ?_
    · rcases List.mem_cons.mp m with rfl | m
      · exact a1
      · exact at_tab _ _ _ _ u m
    · have e : (o' :: tabM 1 L R E).map (O.ren (gV [x] μ)) = o' :: tabM μ.length L R E := by
        rw [List.map_cons, a2]
        congr 1
        refine tab_ren (gV [x] μ) 1 μ.length (fun i => ?_) L R E
        unfold gV
        rw [getD_none (List.getElem?_eq_none (by simp))]
        simp
      rw [e]
      simpa [setAll, T.ren, gV] using hP
theorem Pur.at {k : Int} {o : O} (h : Pur k o) : AtO o := by
  obtain ⟨a, b, c, rfl, _⟩ := h
  intro t m
  simp at m
  rcases m with rfl | rfl | rfl <;> trivial
theorem c_qt_sheet {x : Nat} {o : O} {k : Int} {L : List Nat} {high : Nat} {μ : Mu} {P : KT} {PX : KX} (h : μ[x]? = some o) (hp : Pur k o) (hk : k < 2 ^ 36) (low : Low L) (asc : L.Pairwise (· < ·)) (lL : L.length ≤ 6) (h1 : 1 ≤ high) (h2 : high ≤ 36)
    (hP : ∀ o' R E, Pur (k + 400) o' → Tok L R E → R.length ≤ high → P (.loc μ.length) (μ.set x o' ++ tabM μ.length L R E)) : callD (Dn 3 d__law_qt_sheet) [.loc x, .dat (.str (tz L)), .dat (.int (high : Nat))] μ P PX :=
  call_pt (ds := [.str (tz L), .int (high : Nat)]) h hp.ren hp.nm (by simp [toDs, toD_dat]) (fun t m => by simp at m; rcases m with rfl | rfl <;> rfl) fun PT PX' kk => ⟨rfl, o, k, L, high, rfl, rfl, hp, hk, low, asc, lL, h1, h2, fun o' R E p tok rl => kk o' L R E p.at p.ren (hP o' R E p tok rl)⟩
end DL
/-! TB10: tables renumbered, tables bent. -/
namespace DL
open PySem PySem.Spec L2
open Tb (Rows Gt Lq)
/-- names of states: the first one ahead, all of them there -/
structure Nms (n j : Nat) (ns : List Nat) : Prop where
  h0 : ns[0]? = some 0
  lt : ∀ x ∈ ns, x < n
  all : ∀ x, x < j → x ∈ ns
theorem Nms.ins {n j : Nat} {ns : List Nat} (h : Nms n j ns) {p v : Nat} (hp : 1 ≤ p) (hv : v < n) (j' : Nat) (hj : ∀ x, x < j' → x < j ∨ x = v) : Nms n j' (ns.take p ++ [v] ++ ns.drop p) := by
  have hm : ∀ x, x ∈ ns.take p ++ [v] ++ ns.drop p ↔ x = v ∨ x ∈ ns := fun x => by
    have := List.take_append_drop p ns
    constructor
    · intro m
      rcases List.mem_append.mp m with m | m
      · rcases List.mem_append.mp m with m | m
        · exact .inr (List.mem_of_mem_take m)
        · exact .inl (by simpa using m)
      · exact .inr (List.mem_of_mem_drop m)
    · rintro (rfl | m)
      · simp
      · rw [← this] at m
        rcases List.mem_append.mp m with m | m
        · simp [m]
        · simp [m]
  refine ⟨?_, fun x m => ?_, fun x hx => ?_⟩
  · obtain ⟨p, rfl⟩ : ∃ q, p = q + 1 := ⟨p - 1, by omega⟩
    have := h.h0
    cases ns with
    | nil => simp at this
    | cons y r => simpa using this
  · rcases (hm x).mp m with rfl | m
    · exact hv
    · exact h.lt x m
  · rcases hj x hx with z | z
    · exact (hm x).mpr (.inr (h.all x z))
    · exact (hm x).mpr (.inl z)
/-- a table renumbered holds the same texts -/
theorem Nms.lq {L E : List Nat} {R R' : Rows} {ns : List Nat} (ok : Tok L R E) (h : Nms R.length R.length ns) (lR : R'.length = ns.length) (hr : ∀ (i : Nat) (q : List Nat), R'[i]? = some q → q.length = L.length ∧ ∀ a, a < L.length → ∃ y, q[a]? = some y ∧ ns[y]? = some (Tb.stp R (ns.getD i 0) a)) :
    Tok L R' ((List.range ns.length).filter fun k => decide (ns.getD k 0 ∈ E)) ∨ 60 < ns.length := by
  by_cases c : 60 < ns.length
  · exact .inr c
  refine .inl ⟨ok.low, ok.asc, ⟨by rw [lR]; exact (List.getElem?_eq_some_iff.mp h.h0).1, fun q m => ?_, fun q m x mx => ?_⟩, by omega, ?_, fun x m => ?_⟩
  · obtain ⟨i, hi⟩ := List.mem_iff_getElem?.mp m
    exact (hr i q hi).1
  · obtain ⟨i, hi⟩ := List.mem_iff_getElem?.mp m
    obtain ⟨a1, a2⟩ := hr i q hi
    obtain ⟨a, ha⟩ := List.mem_iff_getElem?.mp mx
    have la := (List.getElem?_eq_some_iff.mp ha).1
    obtain ⟨y, y1, y2⟩ := a2 a (by omega)
    rw [ha] at y1
    cases y1
    rw [lR]
    exact (List.getElem?_eq_some_iff.mp y2).1
  · exact List.Pairwise.filter _ List.pairwise_lt_range
  · rw [lR]
    exact List.mem_range.mp (List.mem_filter.mp m).1
theorem Nms.lq2 {L E : List Nat} {R R' : Rows} {ns : List Nat} (ok : Tok L R E) (h : Nms R.length R.length ns) (lR : R'.length = ns.length) (hr : ∀ (i : Nat) (q : List Nat), R'[i]? = some q → q.length = L.length ∧ ∀ a, a < L.length → ∃ y, q[a]? = some y ∧ ns[y]? = some (Tb.stp R (ns.getD i 0) a)) :
    Lq L.length R' ((List.range ns.length).filter fun k => decide (ns.getD k 0 ∈ E)) R E 0 0 := by
  have gd : ∀ {i x : Nat}, ns[i]? = some x → ns.getD i 0 = x := fun e => by rw [List.getD_eq_getElem?_getD, e]; rfl
  refine Lq.bis (fun k s => ns[k]? = some s) (fun k s e => ?_) (fun k s a e ha => ?_) h.h0
  · have lk := (List.getElem?_eq_some_iff.mp e).1
    rw [List.mem_filter, List.mem_range, gd e]
    simp [lk]
  · have lk := (List.getElem?_eq_some_iff.mp e).1
    obtain ⟨a1, a2⟩ := hr k _ (List.getElem?_eq_getElem (by rw [lR]; exact lk))
    obtain ⟨y, y1, y2⟩ := a2 a ha
    have es : Tb.stp R' k a = y := by
      unfold Tb.stp
      rw [List.getD_eq_getElem?_getD (l := R'), List.getElem?_eq_getElem (by rw [lR]; exact lk)]
      show (R'[k]).getD a 0 = y
      rw [List.getD_eq_getElem?_getD, y1]
      rfl
    rw [es, y2, gd e]
structure RnS (μ : Mu) (o : O) (ns : List Nat) (f : Rows) (ls : List Nat) : Prop where
  h0 : μ[0]? = some o
  h1 : μ[1]? = some (.lst (dsi ns))
  h2 : μ[2]? = some (.lst (ls.map .loc))
  len : ls.length = f.length
  row : ∀ (i l : Nat) (q : List Nat), ls[i]? = some l → f[i]? = some q → μ[l]? = some (.lst (dsi q))
  nd : ls.Nodup
  ge : ∀ x ∈ ls, 3 ≤ x
section
variable {μ μ' : Mu} {o : O} {ns : List Nat} {f : Rows} {ls : List Nat}
theorem RnS.kp (h : RnS μ o ns f ls) (k : ∀ n u, (n ≤ 2 ∨ n ∈ ls) → μ[n]? = some u → μ'[n]? = some u) : RnS μ' o ns f ls :=
  ⟨k _ _ (.inl (by decide)) h.h0, k _ _ (.inl (by decide)) h.h1, k _ _ (.inl (by decide)) h.h2, h.len, fun i l q a b => k _ _ (.inr (List.mem_of_getElem? a)) (h.row i l q a b), h.nd, h.ge⟩
theorem RnS.app (h : RnS μ o ns f ls) (g : Mu) : RnS (μ ++ g) o ns f ls := h.kp fun n u _ e => by
  rw [List.getElem?_append_left (List.getElem?_eq_some_iff.mp e).1]
  exact e
theorem RnS.setp {p : Nat} {u : O} (h : RnS μ o ns f ls) (h4 : 2 < p) (hp : p ∉ ls) : RnS (μ.set p u) o ns f ls := h.kp fun n v m e => by
  rw [List.getElem?_set_ne (by rcases m with m | m
                               · omega
                               · exact fun z => hp (z ▸ m))]
  exact e
theorem RnS.set0 {o' : O} (h : RnS μ o ns f ls) : RnS (μ.set 0 o') o' ns f ls := by
  have l0 := (List.getElem?_eq_some_iff.mp h.h0).1
  refine ⟨List.getElem?_set_self l0, ?_, ?_, h.len, fun i l q a b => ?_, h.nd, h.ge⟩
  · rw [List.getElem?_set_ne (by decide)]; exact h.h1
  · rw [List.getElem?_set_ne (by decide)]; exact h.h2
  · have := h.ge l (List.mem_of_getElem? a)
    rw [List.getElem?_set_ne (by omega)]
    exact h.row i l q a b
theorem RnS.lt (h : RnS μ o ns f ls) : ∀ x ∈ ls, x < μ.length := fun x m => by
  obtain ⟨i, hi⟩ := List.mem_iff_getElem?.mp m
  have li := (List.getElem?_eq_some_iff.mp hi).1
  have := h.row i x _ hi (List.getElem?_eq_getElem (by rw [← h.len]; exact li))
  exact (List.getElem?_eq_some_iff.mp this).1
end
def w__law_qt_renumbered_1 : WpS := (wRet (wTup (wCons (wVar 3) (wCons (wVar 9) (wCons (wLc (wiR1 (wCons (wCB cLen (wCons (wVar 6) wNil)) wNil)) (wgName 7) (wB (wOp oIn (wOp oIx (wVar 6) (wVar 7)) (wVar 5))) (wVar 7) [7]) wNil)))))
def w__law_qt_renumbered_2 : WpS := (wDrop (wBM "list" mAppend (wVar 9) (wCons (wVar 11) wNil)))
def w__law_qt_renumbered_3 : WpS := (wDrop (wBM "list" mAppend (wVar 11) (wCons (wOp oIx (wVar 13) (wCall (Dn 2 d__law_coin) (wCons (wVar 0) (wCons (wCB cLen (wCons (wVar 13) wNil)) wNil)))) wNil)))
def w__law_qt_renumbered_4 : WpS := (wSeq (wAsg (wLc (wiR1 (wCons (wCB cLen (wCons (wVar 6) wNil)) wNil)) (wgName 7) (wB (wOp oEqA (wOp oIx (wVar 6) (wVar 7)) (wVar 12))) (wVar 7) [7]) (wgName 13))
    w__law_qt_renumbered_3)
def w__law_qt_renumbered_5 : WpS := (wSeq (wFor (wiA (wOp oIx (wVar 4) (wVar 10))) (wgName 12) w__law_qt_renumbered_4)
    w__law_qt_renumbered_2)
def w__law_qt_renumbered_6 : WpS := (wSeq (wAsg (wLst wNil) (wgName 11))
    w__law_qt_renumbered_5)
def w__law_qt_renumbered_7 : WpS := (wSeq (wFor (wiA (wVar 6)) (wgName 10) w__law_qt_renumbered_6)
    w__law_qt_renumbered_1)
def w__law_qt_renumbered_8 : WpS := (wSeq (wAsg (wLst wNil) (wgName 9))
    w__law_qt_renumbered_7)
def w__law_qt_renumbered_9 : WpS := (wDrop (wBM "list" mInsert (wVar 6) (wCons (wOp oAdd (wC (.int 1)) (wCall (Dn 2 d__law_coin) (wCons (wVar 0) (wCons (wCB cLen (wCons (wVar 6) wNil)) wNil)))) (wCons (wCall (Dn 2 d__law_coin) (wCons (wVar 0) (wCons (wCB cLen (wCons (wVar 4) wNil)) wNil))) wNil))))
def w__law_qt_renumbered_10 : WpS := (wSeq (wFor (wiR1 (wCons (wCall (Dn 2 d__law_coin) (wCons (wVar 0) (wCons (wOp oAdd (wVar 2) (wC (.int 1))) wNil))) wNil)) (wgName 8) w__law_qt_renumbered_9)
    w__law_qt_renumbered_8)
def w__law_qt_renumbered_11 : WpS := (wDrop (wBM "list" mInsert (wVar 6) (wCons (wOp oAdd (wC (.int 1)) (wCall (Dn 2 d__law_coin) (wCons (wVar 0) (wCons (wCB cLen (wCons (wVar 6) wNil)) wNil)))) (wCons (wVar 7) wNil))))
def w__law_qt_renumbered_12 : WpS := (wSeq (wFor (wiR2 (wCons (wC (.int 1)) (wCons (wCB cLen (wCons (wVar 4) wNil)) wNil))) (wgName 7) w__law_qt_renumbered_11)
    w__law_qt_renumbered_10)
def w__law_qt_renumbered_13 : WpS := (wSeq (wAsg (wLst (wCons (wC (.int 0)) wNil)) (wgName 6))
    w__law_qt_renumbered_12)
def w__law_qt_renumbered : WpS := (wSeq (wAsg (wVar 1) (wgTup 3 (wgCons (wgName 3) (wgCons (wgName 4) (wgCons (wgName 5) wgNil)))))
    w__law_qt_renumbered_13)
def d__law_qt_renumbered : DSp := fun ts μ P _ => ∃ (o : O) (k : Int) (L : List Nat) (R : Rows) (E : List Nat) (extra : Nat), ts = [.loc 0, .dat (tabD L R E), .dat (.int (extra : Nat))] ∧ μ = [o] ∧ Pur k o ∧ k < 2 ^ 36 ∧ Tok L R E ∧ R.length ≤ 40 ∧ L.length ≤ 6 ∧ extra ≤ 10 ∧ ∀ o' R' E', Pur (k + 1000) o' → Tok L R' E' → R'.length ≤ R.length + extra → Lq L.length R' E' R E 0 0 → P (.loc 1) (o' :: tabM 1 L R' E')
theorem p__law_qt_renumbered (ts : List T) (μ : Mu) (PT : KT) (PX : KX) (h : d__law_qt_renumbered ts μ PT PX) : w__law_qt_renumbered (DEof μ.length PT PX) (startE 14 ts) μ := by
  obtain ⟨o, k, L, R, E, extra, rfl, rfl, hp, hk, ok, rl, lL, hx, hP⟩ := h
  have hs := sizeLine_ge
  have gt := ok.gt
  have n0 := gt.ne
  simp [w__law_qt_renumbered, DE.px, wSeq, wIfS, wB, wOp, wVar, wC, startE, asB, nm_dat, nm, oI, rdQ, rdL, rdT, wAsg, wgName, wgSub, wRet, wRetN, wNext, wDrop, wCall, wCB, wPar, wBM, wSl, wPart, wNoPart, wgTup, wgCons, wgNil, wCons, wNil, cInt, itR, itT, itS, itL, wiR1, wiR2, wiT, wiS, wiL, wLc_eq, wFor_eq, wYes, wipeE, oAdd_int, oEqA_int', oEqA_str', oNeA_str', CTrue, gGt, gMul, gMod, gPow, gDiv, gSub, gLt, gLe, gGe, gAdd, gNeg, gMax, gMin, gAbs, cI1, cI2, wUn, uI, wIf, wTru, asTru, truT, wNot, wAnd, wOr, wAndV, wOrV, wNotV, wLst, wTup, mkL, nm, wStarA, wRev, wPar3, wSetF, wFld, rdI, putT, wProp, wMake, wMeth, wSortSet, List.lookup]
  simp [w__law_qt_renumbered_13, DE.px, wSeq, wIfS, wB, wOp, wVar, wC, startE, asB, nm_dat, nm, oI, rdQ, rdL, rdT, wAsg, wgName, wgSub, wRet, wRetN, wNext, wDrop, wCall, wCB, wPar, wBM, wSl, wPart, wNoPart, wgTup, wgCons, wgNil, wCons, wNil, cInt, itR, itT, itS, itL, wiR1, wiR2, wiT, wiS, wiL, wLc_eq, wFor_eq, wYes, wipeE, oAdd_int, oEqA_int', oEqA_str', oNeA_str', CTrue, gGt, gMul, gMod, gPow, gDiv, gSub, gLt, gLe, gGe, gAdd, gNeg, gMax, gMin, gAbs, cI1, cI2, wUn, uI, wIf, wTru, asTru, truT, wNot, wAnd, wOr, wAndV, wOrV, wNotV, wLst, wTup, mkL, nm, wStarA, wRev, wPar3, wSetF, wFld, rdI, putT, wProp, wMake, wMeth, wSortSet, List.lookup]
  refine ⟨by omega, ?_⟩
  simp [w__law_qt_renumbered_12, DE.px, wSeq, wIfS, wB, wOp, wVar, wC, startE, asB, nm_dat, nm, oI, rdQ, rdL, rdT, wAsg, wgName, wgSub, wRet, wRetN, wNext, wDrop, wCall, wCB, wPar, wBM, wSl, wPart, wNoPart, wgTup, wgCons, wgNil, wCons, wNil, cInt, itR, itT, itS, itL, wiR1, wiR2, wiT, wiS, wiL, wLc_eq, wFor_eq, wYes, wipeE, oAdd_int, oEqA_int', oEqA_str', oNeA_str', CTrue, gGt, gMul, gMod, gPow, gDiv, gSub, gLt, gLe, gGe, gAdd, gNeg, gMax, gMin, gAbs, cI1, cI2, wUn, uI, wIf, wTru, asTru, truT, wNot, wAnd, wOr, wAndV, wOrV, wNotV, wLst, wTup, mkL, nm, wStarA, wRev, wPar3, wSetF, wFld, rdI, putT, wProp, wMake, wMeth, wSortSet, List.lookup]
  refine cLen_seq (ts := (rwD R).map .dat) rfl (fun z h => by cases h) ?_
  simp [DE.px, wSeq, wIfS, wB, wOp, wVar, wC, startE, asB, nm_dat, nm, oI, rdQ, rdL, rdT, wAsg, wgName, wgSub, wRet, wRetN, wNext, wDrop, wCall, wCB, wPar, wBM, wSl, wPart, wNoPart, wgTup, wgCons, wgNil, wCons, wNil, cInt, itR, itT, itS, itL, wiR1, wiR2, wiT, wiS, wiL, wLc_eq, wFor_eq, wYes, wipeE, oAdd_int, oEqA_int', oEqA_str', oNeA_str', CTrue, gGt, gMul, gMod, gPow, gDiv, gSub, gLt, gLe, gGe, gAdd, gNeg, gMax, gMin, gAbs, cI1, cI2, wUn, uI, wIf, wTru, asTru, truT, wNot, wAnd, wOr, wAndV, wOrV, wNotV, wLst, wTup, mkL, nm, wStarA, wRev, wPar3, wSetF, wFld, rdI, putT, wProp, wMake, wMeth, wSortSet, List.lookup]
  refine ⟨by omega, ?_⟩
  have insert : ∀ {ns : List Nat} {v p : Nat} {o : O} {P : KT}, p ≤ ns.length → ns.length ≤ 1000 → P (.dat .none) [o, .lst (dsi (ns.take p ++ [v] ++ ns.drop p))] → mInsert (.loc 1) [.dat (.int (p : Nat)), .dat (.int (v : Nat))] [o, .lst (dsi ns)] P := fun {ns v p o P} hp hl hP => by
    refine mInsert_live (ts := dsi ns) rfl (by rw [dsi_len]; omega) (by omega) (by omega) ?_
    have e : (dsi ns).take (p : Int).toNat ++ [T.dat (.int (v : Nat))] ++ (dsi ns).drop (p : Int).toNat = dsi (ns.take p ++ [v] ++ ns.drop p) := by
      rw [Int.toNat_natCast, ← dsi_app, ← dsi_app]
      unfold dsi
      rw [List.map_take, List.map_drop]
      rfl
    rw [e]
    exact hP
  obtain ⟨Inv, hI⟩ : ∃ Inv : Nat → En → Mu → Prop, Inv = (fun (i : Nat) (env : En) (μ : Mu) => ∃ (a7 : Option T) (o : O) (ns : List Nat), env = [some (.loc 0), some (.dat (tabD L R E)), some (.dat (.int (extra : Nat))), some (.dat (.str (tz L))), some (.dat (.list (rwD R))), some (.dat (.list (inz E))), some (.loc 1), a7, none, none, none, none, none, none] ∧ μ = [o, .lst (dsi ns)] ∧ Pur (k + i) o ∧ ns.length = i + 1 ∧ Nms R.length (i + 1) ns) := ⟨_, rfl⟩
  have nm0 : Nms R.length 1 [0] := by
    refine ⟨rfl, fun x m => ?_, fun x hx => ?_⟩
    · have : x = 0 := by simpa using m
      omega
    · have : x = 0 := by omega
      simp [this]
  refine ⟨Inv, by rw [hI]; exact ⟨none, o, [0], rfl, rfl, by simpa using hp, rfl, nm0⟩, fun _ _ _ _ _ => trivial, fun i env μ hi h => ?_, fun env μ h => ?_⟩
  · rw [hI] at h
    obtain ⟨a7, o1, ns, rfl, rfl, p1, ln, nm1⟩ := h
    have hi : i < R.length - 1 := hi
    simp [w__law_qt_renumbered_11, DE.px, wSeq, wIfS, wB, wOp, wVar, wC, startE, asB, nm_dat, nm, oI, rdQ, rdL, rdT, wAsg, wgName, wgSub, wRet, wRetN, wNext, wDrop, wCall, wCB, wPar, wBM, wSl, wPart, wNoPart, wgTup, wgCons, wgNil, wCons, wNil, cInt, itR, itT, itS, itL, wiR1, wiR2, wiT, wiS, wiL, wLc_eq, wFor_eq, wYes, wipeE, oAdd_int, oEqA_int', oEqA_str', oNeA_str', CTrue, gGt, gMul, gMod, gPow, gDiv, gSub, gLt, gLe, gGe, gAdd, gNeg, gMax, gMin, gAbs, cI1, cI2, wUn, uI, wIf, wTru, asTru, truT, wNot, wAnd, wOr, wAndV, wOrV, wNotV, wLst, wTup, mkL, nm, wStarA, wRev, wPar3, wSetF, wFld, rdI, putT, wProp, wMake, wMeth, wSortSet, List.lookup]
    refine ⟨tyT_live rfl, cLen_live (n := 1) rfl ?_⟩
    rw [dsi_len]
    refine c_coin (k := k + i) rfl p1 (by omega) (by omega) (by omega) fun s o2 s0 s1 p2 => ?_
    rw [oAdd_int]
    obtain ⟨q, eq⟩ : ∃ q : Nat, (1 + s : Int) = q := ⟨(1 + s).toNat, by omega⟩
    rw [eq]
    have ei : (1 + (i : Int)) = ((i + 1 : Nat) : Int) := by omega
    rw [ei]
    refine insert (by omega) (by omega) ?_
    rw [hI]
    refine ⟨_, o2, _, rfl, rfl, by rw [show k + ((i + 1 : Nat) : Int) = k + i + 1 by omega]; exact p2, ?_, nm1.ins (by omega) (by omega) _ fun x hx => by omega⟩
    simp
    omega
  · rw [hI] at h
    obtain ⟨a7, o1, ns, rfl, rfl, p1, ln, nm1⟩ := h
    have ln : ns.length = (R.length - 1) + 1 := ln
    have nm1 : Nms R.length ((R.length - 1) + 1) ns := nm1
    have er : (R.length - 1) + 1 = R.length := by omega
    rw [er] at ln nm1
    have p1 : Pur (k + 40) o1 := p1.mono (by show k + ((R.length - 1 : Nat) : Int) ≤ _; omega)
    simp [w__law_qt_renumbered_10, DE.px, wSeq, wIfS, wB, wOp, wVar, wC, startE, asB, nm_dat, nm, oI, rdQ, rdL, rdT, wAsg, wgName, wgSub, wRet, wRetN, wNext, wDrop, wCall, wCB, wPar, wBM, wSl, wPart, wNoPart, wgTup, wgCons, wgNil, wCons, wNil, cInt, itR, itT, itS, itL, wiR1, wiR2, wiT, wiS, wiL, wLc_eq, wFor_eq, wYes, wipeE, oAdd_int, oEqA_int', oEqA_str', oNeA_str', CTrue, gGt, gMul, gMod, gPow, gDiv, gSub, gLt, gLe, gGe, gAdd, gNeg, gMax, gMin, gAbs, cI1, cI2, wUn, uI, wIf, wTru, asTru, truT, wNot, wAnd, wOr, wAndV, wOrV, wNotV, wLst, wTup, mkL, nm, wStarA, wRev, wPar3, wSetF, wFld, rdI, putT, wProp, wMake, wMeth, wSortSet, List.lookup]
    refine c_coin (k := k + 40) rfl p1 (by omega) (by omega) (by omega) fun t o2 t0 t1 p2 => ?_
    obtain ⟨t', rfl⟩ : ∃ t' : Nat, t = t' := ⟨t.toNat, by omega⟩
    simp [DE.px, wSeq, wIfS, wB, wOp, wVar, wC, startE, asB, nm_dat, nm, oI, rdQ, rdL, rdT, wAsg, wgName, wgSub, wRet, wRetN, wNext, wDrop, wCall, wCB, wPar, wBM, wSl, wPart, wNoPart, wgTup, wgCons, wgNil, wCons, wNil, cInt, itR, itT, itS, itL, wiR1, wiR2, wiT, wiS, wiL, wLc_eq, wFor_eq, wYes, wipeE, oAdd_int, oEqA_int', oEqA_str', oNeA_str', CTrue, gGt, gMul, gMod, gPow, gDiv, gSub, gLt, gLe, gGe, gAdd, gNeg, gMax, gMin, gAbs, cI1, cI2, wUn, uI, wIf, wTru, asTru, truT, wNot, wAnd, wOr, wAndV, wOrV, wNotV, wLst, wTup, mkL, nm, wStarA, wRev, wPar3, wSetF, wFld, rdI, putT, wProp, wMake, wMeth, wSortSet, List.lookup]
    refine ⟨by omega, ?_⟩
    obtain ⟨Jnv, hJ⟩ : ∃ Jnv : Nat → En → Mu → Prop, Jnv = (fun (i : Nat) (env : En) (μ : Mu) => ∃ (a8 : Option T) (o : O) (ns : List Nat), env = [some (.loc 0), some (.dat (tabD L R E)), some (.dat (.int (extra : Nat))), some (.dat (.str (tz L))), some (.dat (.list (rwD R))), some (.dat (.list (inz E))), some (.loc 1), a7, a8, none, none, none, none, none] ∧ μ = [o, .lst (dsi ns)] ∧ Pur (k + 41 + 2 * i) o ∧ ns.length = R.length + i ∧ Nms R.length R.length ns) := ⟨_, rfl⟩
    refine ⟨Jnv, by rw [hJ]; exact ⟨none, o2, ns, rfl, by simp, by rw [show k + 41 + 2 * ((0 : Nat) : Int) = k + 40 + 1 by omega]; exact p2, by omega, nm1⟩, fun _ _ _ _ _ => trivial, fun i env μ hi h => ?_, fun env μ h => ?_⟩
    · rw [hJ] at h
      obtain ⟨a8, o3, ns, rfl, rfl, p3, ln, nm1⟩ := h
      have hi : i < t' := hi
      simp [w__law_qt_renumbered_9, DE.px, wSeq, wIfS, wB, wOp, wVar, wC, startE, asB, nm_dat, nm, oI, rdQ, rdL, rdT, wAsg, wgName, wgSub, wRet, wRetN, wNext, wDrop, wCall, wCB, wPar, wBM, wSl, wPart, wNoPart, wgTup, wgCons, wgNil, wCons, wNil, cInt, itR, itT, itS, itL, wiR1, wiR2, wiT, wiS, wiL, wLc_eq, wFor_eq, wYes, wipeE, oAdd_int, oEqA_int', oEqA_str', oNeA_str', CTrue, gGt, gMul, gMod, gPow, gDiv, gSub, gLt, gLe, gGe, gAdd, gNeg, gMax, gMin, gAbs, cI1, cI2, wUn, uI, wIf, wTru, asTru, truT, wNot, wAnd, wOr, wAndV, wOrV, wNotV, wLst, wTup, mkL, nm, wStarA, wRev, wPar3, wSetF, wFld, rdI, putT, wProp, wMake, wMeth, wSortSet, List.lookup]
      refine ⟨tyT_live rfl, cLen_live (n := 1) rfl ?_⟩
      rw [dsi_len]
      refine c_coin (k := k + 41 + 2 * i) rfl p3 (by omega) (by omega) (by omega) fun s o4 s0 s1 p4 => ?_
      rw [oAdd_int]
      refine cLen_seq (ts := (rwD R).map .dat) rfl (fun z h => by cases h) ?_
      simp [DE.px, wSeq, wIfS, wB, wOp, wVar, wC, startE, asB, nm_dat, nm, oI, rdQ, rdL, rdT, wAsg, wgName, wgSub, wRet, wRetN, wNext, wDrop, wCall, wCB, wPar, wBM, wSl, wPart, wNoPart, wgTup, wgCons, wgNil, wCons, wNil, cInt, itR, itT, itS, itL, wiR1, wiR2, wiT, wiS, wiL, wLc_eq, wFor_eq, wYes, wipeE, oAdd_int, oEqA_int', oEqA_str', oNeA_str', CTrue, gGt, gMul, gMod, gPow, gDiv, gSub, gLt, gLe, gGe, gAdd, gNeg, gMax, gMin, gAbs, cI1, cI2, wUn, uI, wIf, wTru, asTru, truT, wNot, wAnd, wOr, wAndV, wOrV, wNotV, wLst, wTup, mkL, nm, wStarA, wRev, wPar3, wSetF, wFld, rdI, putT, wProp, wMake, wMeth, wSortSet, List.lookup]
      refine c_coin (k := k + 41 + 2 * i + 1) rfl p4 (by omega) (by omega) (by omega) fun v o5 v0 v1 p5 => ?_
      obtain ⟨q, eq⟩ : ∃ q : Nat, (1 + s : Int) = q := ⟨(1 + s).toNat, by omega⟩
      obtain ⟨v', rfl⟩ : ∃ v' : Nat, v = v' := ⟨v.toNat, by omega⟩
      rw [eq]
      refine insert (by omega) (by omega) ?_
      rw [hJ]
      refine ⟨_, o5, _, rfl, rfl, by rw [show k + 41 + 2 * ((i + 1 : Nat) : Int) = k + 41 + 2 * i + 1 + 1 by omega]; exact p5, ?_, nm1.ins (by omega) (by omega) _ fun x hx => .inl hx⟩
      simp
      omega
    · rw [hJ] at h
      obtain ⟨a8, o3, ns, rfl, rfl, p3, ln, nm1⟩ := h
      have ln : ns.length = R.length + t' := ln
      have p3 : Pur (k + 100) o3 := p3.mono (by show k + 41 + 2 * ((t' : Nat) : Int) ≤ _; omega)
      simp [w__law_qt_renumbered_8, DE.px, wSeq, wIfS, wB, wOp, wVar, wC, startE, asB, nm_dat, nm, oI, rdQ, rdL, rdT, wAsg, wgName, wgSub, wRet, wRetN, wNext, wDrop, wCall, wCB, wPar, wBM, wSl, wPart, wNoPart, wgTup, wgCons, wgNil, wCons, wNil, cInt, itR, itT, itS, itL, wiR1, wiR2, wiT, wiS, wiL, wLc_eq, wFor_eq, wYes, wipeE, oAdd_int, oEqA_int', oEqA_str', oNeA_str', CTrue, gGt, gMul, gMod, gPow, gDiv, gSub, gLt, gLe, gGe, gAdd, gNeg, gMax, gMin, gAbs, cI1, cI2, wUn, uI, wIf, wTru, asTru, truT, wNot, wAnd, wOr, wAndV, wOrV, wNotV, wLst, wTup, mkL, nm, wStarA, wRev, wPar3, wSetF, wFld, rdI, putT, wProp, wMake, wMeth, wSortSet, List.lookup]
      simp [w__law_qt_renumbered_7, DE.px, wSeq, wIfS, wB, wOp, wVar, wC, startE, asB, nm_dat, nm, oI, rdQ, rdL, rdT, wAsg, wgName, wgSub, wRet, wRetN, wNext, wDrop, wCall, wCB, wPar, wBM, wSl, wPart, wNoPart, wgTup, wgCons, wgNil, wCons, wNil, cInt, itR, itT, itS, itL, wiR1, wiR2, wiT, wiS, wiL, wLc_eq, wFor_eq, wYes, wipeE, oAdd_int, oEqA_int', oEqA_str', oNeA_str', CTrue, gGt, gMul, gMod, gPow, gDiv, gSub, gLt, gLe, gGe, gAdd, gNeg, gMax, gMin, gAbs, cI1, cI2, wUn, uI, wIf, wTru, asTru, truT, wNot, wAnd, wOr, wAndV, wOrV, wNotV, wLst, wTup, mkL, nm, wStarA, wRev, wPar3, wSetF, wFld, rdI, putT, wProp, wMake, wMeth, wSortSet, List.lookup]
      have rg : ∀ x ∈ ns, ∃ xs, R[x]? = some xs ∧ xs.length = L.length ∧ (∀ y ∈ xs, y < R.length) ∧ ∀ a, a < L.length → xs[a]? = some (Tb.stp R x a) := fun x m => by
        have lx := nm1.lt x m
        obtain ⟨r1, r2, r3⟩ := Tb.row_at gt lx
        refine ⟨R.getD x [], ?_, r1, r2, r3⟩
        rw [List.getD_eq_getElem?_getD, List.getElem?_eq_getElem lx]
        rfl
      have gd : ∀ {i x : Nat}, ns[i]? = some x → ns.getD i 0 = x := fun e => by rw [List.getD_eq_getElem?_getD, e]; rfl
      refine wiA_L (t := .loc 1) (ts := dsi ns) (var_q rfl) (rdL_live rfl) ?_
      obtain ⟨Knv, hK⟩ : ∃ Knv : Nat → En → Mu → Prop, Knv = (fun (i : Nat) (env : En) (μ : Mu) => ∃ (a7 a10 a11 a12 a13 : Option T) (o : O) (f : Rows) (ls : List Nat), env = [some (.loc 0), some (.dat (tabD L R E)), some (.dat (.int (extra : Nat))), some (.dat (.str (tz L))), some (.dat (.list (rwD R))), some (.dat (.list (inz E))), some (.loc 1), a7, a8, some (.loc 2), a10, a11, a12, a13] ∧ RnS μ o ns f ls ∧ Pur (k + 100 + 6 * i) o ∧ f.length = i ∧ ∀ (j : Nat) (q : List Nat), f[j]? = some q → q.length = L.length ∧ ∀ a, a < L.length → ∃ y, q[a]? = some y ∧ ns[y]? = some (Tb.stp R (ns.getD j 0) a)) := ⟨_, rfl⟩
      refine ⟨Knv, ?_, fun i env μ _ h => ?_, fun i env μ hi h => ?_, fun env μ h => ?_⟩
      · rw [hK]
        exact ⟨_, _, _, _, _, o3, [], [], rfl, ⟨rfl, rfl, rfl, rfl, fun i l q h => by simp at h, List.nodup_nil, fun x h => by simp at h⟩, by simpa using p3, rfl, fun j q h => by simp at h⟩
      · rw [hK] at h
        obtain ⟨b7, b10, b11, b12, b13, o4, f, ls, rfl, st, _⟩ := h
        exact rdL_live st.h1
      · rw [hK] at h
        obtain ⟨b7, b10, b11, b12, b13, o4, f, ls, rfl, st, p4, lf, hf⟩ := h
        have hi : i < (dsi ns).length := hi
        rw [dsi_len] at hi
        have hxi : ns[i]? = some ns[i] := List.getElem?_eq_getElem hi
        obtain ⟨xs, hxs, lxs, ltx, atx⟩ := rg ns[i] (List.getElem_mem hi)
        refine ⟨_, dsi_at hxi, ?_⟩
        simp [w__law_qt_renumbered_6, DE.px, wSeq, wIfS, wB, wOp, wVar, wC, startE, asB, nm_dat, nm, oI, rdQ, rdL, rdT, wAsg, wgName, wgSub, wRet, wRetN, wNext, wDrop, wCall, wCB, wPar, wBM, wSl, wPart, wNoPart, wgTup, wgCons, wgNil, wCons, wNil, cInt, itR, itT, itS, itL, wiR1, wiR2, wiT, wiS, wiL, wLc_eq, wFor_eq, wYes, wipeE, oAdd_int, oEqA_int', oEqA_str', oNeA_str', CTrue, gGt, gMul, gMod, gPow, gDiv, gSub, gLt, gLe, gGe, gAdd, gNeg, gMax, gMin, gAbs, cI1, cI2, wUn, uI, wIf, wTru, asTru, truT, wNot, wAnd, wOr, wAndV, wOrV, wNotV, wLst, wTup, mkL, nm, wStarA, wRev, wPar3, wSetF, wFld, rdI, putT, wProp, wMake, wMeth, wSortSet, List.lookup]
        simp [w__law_qt_renumbered_5, DE.px, wSeq, wIfS, wB, wOp, wVar, wC, startE, asB, nm_dat, nm, oI, rdQ, rdL, rdT, wAsg, wgName, wgSub, wRet, wRetN, wNext, wDrop, wCall, wCB, wPar, wBM, wSl, wPart, wNoPart, wgTup, wgCons, wgNil, wCons, wNil, cInt, itR, itT, itS, itL, wiR1, wiR2, wiT, wiS, wiL, wLc_eq, wFor_eq, wYes, wipeE, oAdd_int, oEqA_int', oEqA_str', oNeA_str', CTrue, gGt, gMul, gMod, gPow, gDiv, gSub, gLt, gLe, gGe, gAdd, gNeg, gMax, gMin, gAbs, cI1, cI2, wUn, uI, wIf, wTru, asTru, truT, wNot, wAnd, wOr, wAndV, wOrV, wNotV, wLst, wTup, mkL, nm, wStarA, wRev, wPar3, wSetF, wFld, rdI, putT, wProp, wMake, wMeth, wSortSet, List.lookup]
        have lls := st.lt
        have lm := (List.getElem?_eq_some_iff.mp st.h2).1
        have nls : μ.length ∉ ls := fun m => by have := lls _ m; omega
        refine wiA_L (t := .dat (.list (inz xs))) (ts := dsi xs) (μ1 := μ ++ [.lst []]) (fun Q hQ => ?_) (congrArg some (inz_dsi _)) ?_
        · simp [DE.px, wSeq, wIfS, wB, wOp, wVar, wC, startE, asB, nm_dat, nm, oI, rdQ, rdL, rdT, wAsg, wgName, wgSub, wRet, wRetN, wNext, wDrop, wCall, wCB, wPar, wBM, wSl, wPart, wNoPart, wgTup, wgCons, wgNil, wCons, wNil, cInt, itR, itT, itS, itL, wiR1, wiR2, wiT, wiS, wiL, wLc_eq, wFor_eq, wYes, wipeE, oAdd_int, oEqA_int', oEqA_str', oNeA_str', CTrue, gGt, gMul, gMod, gPow, gDiv, gSub, gLt, gLe, gGe, gAdd, gNeg, gMax, gMin, gAbs, cI1, cI2, wUn, uI, wIf, wTru, asTru, truT, wNot, wAnd, wOr, wAndV, wOrV, wNotV, wLst, wTup, mkL, nm, wStarA, wRev, wPar3, wSetF, wFld, rdI, putT, wProp, wMake, wMeth, wSortSet, List.lookup]
          exact ix_rows hxs hQ
        obtain ⟨Mnv, hM⟩ : ∃ Mnv : Nat → En → Mu → Prop, Mnv = (fun (j : Nat) (env : En) (μ' : Mu) => ∃ (a7 a12 a13 : Option T) (o : O) (q : List Nat), env = [some (.loc 0), some (.dat (tabD L R E)), some (.dat (.int (extra : Nat))), some (.dat (.str (tz L))), some (.dat (.list (rwD R))), some (.dat (.list (inz E))), some (.loc 1), a7, a8, some (.loc 2), some (.dat (.int (ns[i] : Nat))), some (.loc μ.length), a12, a13] ∧ RnS μ' o ns f ls ∧ μ'[μ.length]? = some (.lst (dsi q)) ∧ Pur (k + 100 + 6 * i + j) o ∧ q.length = j ∧ ∀ a, a < j → ∃ y, q[a]? = some y ∧ ns[y]? = some (Tb.stp R ns[i] a)) := ⟨_, rfl⟩
        refine ⟨Mnv, ?_, fun _ _ _ _ _ => congrArg some (inz_dsi _), fun j env μ' hj h => ?_, fun env μ' h => ?_⟩
        · rw [hM]
          exact ⟨_, _, _, o4, [], rfl, st.app _, by simp [dsi], by simpa using p4, rfl, fun a h => by omega⟩
        · rw [hM] at h
          obtain ⟨c7, c12, c13, o5, q, rfl, st', hq, p5, lq, hq2⟩ := h
          have hj : j < (dsi xs).length := hj
          rw [dsi_len] at hj
          have hxj : xs[j]? = some xs[j] := List.getElem?_eq_getElem hj
          have yl := ltx xs[j] (List.getElem_mem hj)
          have ej : xs[j] = Tb.stp R ns[i] j := by
            have := atx j (by omega)
            rw [hxj] at this
            exact Option.some.inj this
          refine ⟨_, dsi_at hxj, ?_⟩
          simp [w__law_qt_renumbered_4, DE.px, wSeq, wIfS, wB, wOp, wVar, wC, startE, asB, nm_dat, nm, oI, rdQ, rdL, rdT, wAsg, wgName, wgSub, wRet, wRetN, wNext, wDrop, wCall, wCB, wPar, wBM, wSl, wPart, wNoPart, wgTup, wgCons, wgNil, wCons, wNil, cInt, itR, itT, itS, itL, wiR1, wiR2, wiT, wiS, wiL, wLc_eq, wFor_eq, wYes, wipeE, oAdd_int, oEqA_int', oEqA_str', oNeA_str', CTrue, gGt, gMul, gMod, gPow, gDiv, gSub, gLt, gLe, gGe, gAdd, gNeg, gMax, gMin, gAbs, cI1, cI2, wUn, uI, wIf, wTru, asTru, truT, wNot, wAnd, wOr, wAndV, wOrV, wNotV, wLst, wTup, mkL, nm, wStarA, wRev, wPar3, wSetF, wFld, rdI, putT, wProp, wMake, wMeth, wSortSet, List.lookup]
          refine cLen_live st'.h1 ?_
          rw [dsi_len]
          simp [DE.px, wSeq, wIfS, wB, wOp, wVar, wC, startE, asB, nm_dat, nm, oI, rdQ, rdL, rdT, wAsg, wgName, wgSub, wRet, wRetN, wNext, wDrop, wCall, wCB, wPar, wBM, wSl, wPart, wNoPart, wgTup, wgCons, wgNil, wCons, wNil, cInt, itR, itT, itS, itL, wiR1, wiR2, wiT, wiS, wiL, wLc_eq, wFor_eq, wYes, wipeE, oAdd_int, oEqA_int', oEqA_str', oNeA_str', CTrue, gGt, gMul, gMod, gPow, gDiv, gSub, gLt, gLe, gGe, gAdd, gNeg, gMax, gMin, gAbs, cI1, cI2, wUn, uI, wIf, wTru, asTru, truT, wNot, wAnd, wOr, wAndV, wOrV, wNotV, wLst, wTup, mkL, nm, wStarA, wRev, wPar3, wSetF, wFld, rdI, putT, wProp, wMake, wMeth, wSortSet, List.lookup]
          refine ⟨by omega, ?_⟩
          refine lc_filt (fun a => .dat (.int (a : Nat))) (fun a => decide (ns.getD a 0 = xs[j])) trivial (by show ns.length ≤ _; omega) (fun a ha Q Qf h1 h2 => ?_) ?_
          · have ha : a < ns.length := ha
            have hna : ns[a]? = some ns[a] := List.getElem?_eq_getElem ha
            rw [gd hna] at h1 h2
            simp [DE.px, wSeq, wIfS, wB, wOp, wVar, wC, startE, asB, nm_dat, nm, oI, rdQ, rdL, rdT, wAsg, wgName, wgSub, wRet, wRetN, wNext, wDrop, wCall, wCB, wPar, wBM, wSl, wPart, wNoPart, wgTup, wgCons, wgNil, wCons, wNil, cInt, itR, itT, itS, itL, wiR1, wiR2, wiT, wiS, wiL, wLc_eq, wFor_eq, wYes, wipeE, oAdd_int, oEqA_int', oEqA_str', oNeA_str', CTrue, gGt, gMul, gMod, gPow, gDiv, gSub, gLt, gLe, gGe, gAdd, gNeg, gMax, gMin, gAbs, cI1, cI2, wUn, uI, wIf, wTru, asTru, truT, wNot, wAnd, wOr, wAndV, wOrV, wNotV, wLst, wTup, mkL, nm, wStarA, wRev, wPar3, wSetF, wFld, rdI, putT, wProp, wMake, wMeth, wSortSet, List.lookup]
            refine ix_ints (rdQ_live st'.h1) hna ?_
            rw [oEqA_int']
            by_cases z : ns[a] = xs[j]
            · simp [z, asB, nm]
              exact h1 (by simpa using z)
            · have z' : ¬ ((ns[a] : Nat) : Int) = (xs[j] : Nat) := by omega
              simp [z', asB, nm]
              exact h2 (by simpa using z)
          · obtain ⟨sp, hsp⟩ : ∃ sp, sp = (List.range ns.length).filter fun a => decide (ns.getD a 0 = xs[j]) := ⟨_, rfl⟩
            show w__law_qt_renumbered_3 _ _ (μ' ++ [.lst (dsi ((List.range ns.length).filter fun a => decide (ns.getD a 0 = xs[j])))])
            rw [← hsp]
            have spm : ∀ y ∈ sp, ns[y]? = some xs[j] := fun y m => by
              rw [hsp, List.mem_filter, List.mem_range] at m
              have e := of_decide_eq_true m.2
              rw [List.getD_eq_getElem?_getD, List.getElem?_eq_getElem m.1] at e
              rw [List.getElem?_eq_getElem m.1]
              exact congrArg some e
            have spl : sp.length ≤ ns.length := by
              rw [hsp]
              have := List.length_filter_le (fun a => decide (ns.getD a 0 = xs[j])) (List.range ns.length)
              simpa using this
            have spn : 0 < sp.length := by
              obtain ⟨b, hb⟩ := List.mem_iff_getElem?.mp (nm1.all _ yl)
              have lb := (List.getElem?_eq_some_iff.mp hb).1
              have : b ∈ sp := by
                rw [hsp, List.mem_filter, List.mem_range]
                exact ⟨lb, decide_eq_true (gd hb)⟩
              exact List.length_pos_of_mem this
            simp [w__law_qt_renumbered_3, DE.px, wSeq, wIfS, wB, wOp, wVar, wC, startE, asB, nm_dat, nm, oI, rdQ, rdL, rdT, wAsg, wgName, wgSub, wRet, wRetN, wNext, wDrop, wCall, wCB, wPar, wBM, wSl, wPart, wNoPart, wgTup, wgCons, wgNil, wCons, wNil, cInt, itR, itT, itS, itL, wiR1, wiR2, wiT, wiS, wiL, wLc_eq, wFor_eq, wYes, wipeE, oAdd_int, oEqA_int', oEqA_str', oNeA_str', CTrue, gGt, gMul, gMod, gPow, gDiv, gSub, gLt, gLe, gGe, gAdd, gNeg, gMax, gMin, gAbs, cI1, cI2, wUn, uI, wIf, wTru, asTru, truT, wNot, wAnd, wOr, wAndV, wOrV, wNotV, wLst, wTup, mkL, nm, wStarA, wRev, wPar3, wSetF, wFld, rdI, putT, wProp, wMake, wMeth, wSortSet, List.lookup]
            have lq' := (List.getElem?_eq_some_iff.mp hq).1
            have up : ∀ {n : Nat} {o : O} (g : Mu), μ'[n]? = some o → (μ' ++ g)[n]? = some o := fun g h => by
              rw [List.getElem?_append_left (List.getElem?_eq_some_iff.mp h).1]
              exact h
            refine ⟨tyT_live (up _ hq), ?_⟩
            refine cLen_live at_end ?_
            rw [dsi_len]
            refine c_coin (k := k + 100 + 6 * i + j) (up _ st'.h0) p5 (by omega) (by omega) (by omega) fun s o6 s0 s1 p6 => ?_
            obtain ⟨s', rfl⟩ : ∃ s' : Nat, s = s' := ⟨s.toNat, by omega⟩
            have hs' : s' < sp.length := by omega
            have lμ' := (List.getElem?_eq_some_iff.mp st'.h0).1
            refine ix_ints (xs := sp) (rdQ_live (by rw [List.getElem?_set_ne (by omega)]; exact at_end)) (List.getElem?_eq_getElem hs') ?_
            refine mAppend_live (ts := dsi q) (by rw [List.getElem?_set_ne (by omega)]; exact up _ hq) (by rw [dsi_len]; omega) ?_
            rw [hM]
            have e9 : dsi q ++ [T.dat (.int (sp[s'] : Nat))] = dsi (q ++ [sp[s']]) := by rw [← dsi_app]; rfl
            rw [e9]
            refine ⟨_, _, _, o6, q ++ [sp[s']], rfl, (((st'.app _).set0).setp (by omega) nls), ?_, by rw [show k + 100 + 6 * (i : Int) + ((j + 1 : Nat) : Int) = k + 100 + 6 * i + j + 1 by omega]; exact p6, by simp [lq], fun a ha => ?_⟩
            · rw [List.getElem?_set_self (by simp; omega)]
            · by_cases ca : a < j
              · obtain ⟨y, y1, y2⟩ := hq2 a ca
                exact ⟨y, by rw [List.getElem?_append_left (by omega)]; exact y1, y2⟩
              · have ea : a = j := by omega
                subst ea
                refine ⟨sp[s'], by rw [List.getElem?_append_right (by omega), lq, Nat.sub_self]; rfl, ?_⟩
                rw [spm _ (List.getElem_mem hs'), ej]
        · rw [hM] at h
          obtain ⟨c7, c12, c13, o5, q, rfl, st', hq, p5, lq, hq2⟩ := h
          have eN : (itL (.dat (.list (inz xs))) (dsi xs)).n = L.length := by show (dsi xs).length = _; rw [dsi_len, lxs]
          rw [eN] at p5 lq hq2
          have l2 := (List.getElem?_eq_some_iff.mp st'.h2).1
          simp [w__law_qt_renumbered_2, DE.px, wSeq, wIfS, wB, wOp, wVar, wC, startE, asB, nm_dat, nm, oI, rdQ, rdL, rdT, wAsg, wgName, wgSub, wRet, wRetN, wNext, wDrop, wCall, wCB, wPar, wBM, wSl, wPart, wNoPart, wgTup, wgCons, wgNil, wCons, wNil, cInt, itR, itT, itS, itL, wiR1, wiR2, wiT, wiS, wiL, wLc_eq, wFor_eq, wYes, wipeE, oAdd_int, oEqA_int', oEqA_str', oNeA_str', CTrue, gGt, gMul, gMod, gPow, gDiv, gSub, gLt, gLe, gGe, gAdd, gNeg, gMax, gMin, gAbs, cI1, cI2, wUn, uI, wIf, wTru, asTru, truT, wNot, wAnd, wOr, wAndV, wOrV, wNotV, wLst, wTup, mkL, nm, wStarA, wRev, wPar3, wSetF, wFld, rdI, putT, wProp, wMake, wMeth, wSortSet, List.lookup]
          refine ⟨tyT_live st'.h2, mAppend_live (ts := ls.map .loc) st'.h2 (by rw [List.length_map, st.len]; omega) ?_⟩
          rw [hK]
          refine ⟨_, _, _, _, _, o5, f ++ [q], ls ++ [μ.length], rfl, ⟨?_, ?_, ?_, by simp [st'.len], fun i l r hi hr => ?_, ?_, fun y m => ?_⟩, p5.mono (by omega), by simp [lf], fun j' r hj' => ?_⟩
          · rw [List.getElem?_set_ne (by decide)]; exact st'.h0
          · rw [List.getElem?_set_ne (by decide)]; exact st'.h1
          · rw [List.getElem?_set_self l2]
            simp
          · have hls : ls.length = f.length := st'.len
            by_cases ci : i < ls.length
            · rw [List.getElem?_append_left ci] at hi
              rw [List.getElem?_append_left (by omega)] at hr
              have := st'.ge l (List.mem_of_getElem? hi)
              rw [List.getElem?_set_ne (by omega)]
              exact st'.row i l r hi hr
            · have ei : i = ls.length := by
                have := (List.getElem?_eq_some_iff.mp hi).1
                simp at this
                omega
              subst ei
              rw [List.getElem?_append_right (Nat.le_refl _), Nat.sub_self] at hi
              rw [List.getElem?_append_right (by omega), hls, Nat.sub_self] at hr
              have e1 : μ.length = l := by simpa using hi
              have e2 : q = r := by simpa using hr
              rw [← e1, ← e2, List.getElem?_set_ne (by omega)]
              exact hq
          · rw [List.nodup_append]
            exact ⟨st'.nd, by simp, fun a ha b hb e => nls (by rw [← (by simpa using hb : b = μ.length), ← e]; exact ha)⟩
          · rcases List.mem_append.mp m with m | m
            · exact st'.ge y m
            · have : y = μ.length := by simpa using m
              omega
          · by_cases cj : j' < f.length
            · rw [List.getElem?_append_left cj] at hj'
              exact hf j' r hj'
            · have ej' : j' = f.length := by
                have := (List.getElem?_eq_some_iff.mp hj').1
                simp at this
                omega
              subst ej'
              rw [List.getElem?_append_right (Nat.le_refl _), Nat.sub_self] at hj'
              have e2 : q = r := by simpa using hj'
              rw [← e2, lf, gd hxi]
              exact ⟨lq, hq2⟩
      · rw [hK] at h
        obtain ⟨b7, b10, b11, b12, b13, o4, f, ls, rfl, st, p4, lf, hf⟩ := h
        have eN : (itL (.loc 1) (dsi ns)).n = ns.length := by show (dsi ns).length = _; rw [dsi_len]
        rw [eN] at p4 lf
        simp [w__law_qt_renumbered_1, DE.px, wSeq, wIfS, wB, wOp, wVar, wC, startE, asB, nm_dat, nm, oI, rdQ, rdL, rdT, wAsg, wgName, wgSub, wRet, wRetN, wNext, wDrop, wCall, wCB, wPar, wBM, wSl, wPart, wNoPart, wgTup, wgCons, wgNil, wCons, wNil, cInt, itR, itT, itS, itL, wiR1, wiR2, wiT, wiS, wiL, wLc_eq, wFor_eq, wYes, wipeE, oAdd_int, oEqA_int', oEqA_str', oNeA_str', CTrue, gGt, gMul, gMod, gPow, gDiv, gSub, gLt, gLe, gGe, gAdd, gNeg, gMax, gMin, gAbs, cI1, cI2, wUn, uI, wIf, wTru, asTru, truT, wNot, wAnd, wOr, wAndV, wOrV, wNotV, wLst, wTup, mkL, nm, wStarA, wRev, wPar3, wSetF, wFld, rdI, putT, wProp, wMake, wMeth, wSortSet, List.lookup]
        have up : ∀ {n : Nat} {o : O} (g : Mu), μ[n]? = some o → (μ ++ g)[n]? = some o := fun g h => by
          rw [List.getElem?_append_left (List.getElem?_eq_some_iff.mp h).1]
          exact h
        have lls : ∀ x ∈ ls, 3 ≤ x ∧ x < μ.length := fun x m => ⟨st.ge x m, st.lt x m⟩
        have lm := (List.getElem?_eq_some_iff.mp st.h2).1
        refine cLen_live st.h1 ?_
        rw [dsi_len]
        simp [DE.px, wSeq, wIfS, wB, wOp, wVar, wC, startE, asB, nm_dat, nm, oI, rdQ, rdL, rdT, wAsg, wgName, wgSub, wRet, wRetN, wNext, wDrop, wCall, wCB, wPar, wBM, wSl, wPart, wNoPart, wgTup, wgCons, wgNil, wCons, wNil, cInt, itR, itT, itS, itL, wiR1, wiR2, wiT, wiS, wiL, wLc_eq, wFor_eq, wYes, wipeE, oAdd_int, oEqA_int', oEqA_str', oNeA_str', CTrue, gGt, gMul, gMod, gPow, gDiv, gSub, gLt, gLe, gGe, gAdd, gNeg, gMax, gMin, gAbs, cI1, cI2, wUn, uI, wIf, wTru, asTru, truT, wNot, wAnd, wOr, wAndV, wOrV, wNotV, wLst, wTup, mkL, nm, wStarA, wRev, wPar3, wSetF, wFld, rdI, putT, wProp, wMake, wMeth, wSortSet, List.lookup]
        refine ⟨by omega, ?_⟩
        refine lc_filt (fun a => .dat (.int (a : Nat))) (fun a => decide (ns.getD a 0 ∈ E)) trivial (by show ns.length ≤ _; omega) (fun a ha Q Qf h1 h2 => ?_) ?_
        · have ha : a < ns.length := ha
          have hna : ns[a]? = some ns[a] := List.getElem?_eq_getElem ha
          rw [gd hna] at h1 h2
          simp [DE.px, wSeq, wIfS, wB, wOp, wVar, wC, startE, asB, nm_dat, nm, oI, rdQ, rdL, rdT, wAsg, wgName, wgSub, wRet, wRetN, wNext, wDrop, wCall, wCB, wPar, wBM, wSl, wPart, wNoPart, wgTup, wgCons, wgNil, wCons, wNil, cInt, itR, itT, itS, itL, wiR1, wiR2, wiT, wiS, wiL, wLc_eq, wFor_eq, wYes, wipeE, oAdd_int, oEqA_int', oEqA_str', oNeA_str', CTrue, gGt, gMul, gMod, gPow, gDiv, gSub, gLt, gLe, gGe, gAdd, gNeg, gMax, gMin, gAbs, cI1, cI2, wUn, uI, wIf, wTru, asTru, truT, wNot, wAnd, wOr, wAndV, wOrV, wNotV, wLst, wTup, mkL, nm, wStarA, wRev, wPar3, wSetF, wFld, rdI, putT, wProp, wMake, wMeth, wSortSet, List.lookup]
          refine ix_ints (rdQ_live st.h1) hna ?_
          refine oIn_n (rdQ_inz _ _) ?_
          by_cases z : ns[a] ∈ E
          · simp [z, asB, nm]
            exact h1 (by simpa using z)
          · simp [z, asB, nm]
            exact h2 (by simpa using z)
        · obtain ⟨E', hE'⟩ : ∃ E', E' = (List.range ns.length).filter fun a => decide (ns.getD a 0 ∈ E) := ⟨_, rfl⟩
          show 3 ≤ sizeLine ∧ mkT [T.dat (PyData.str (tz L)), T.loc 2, T.loc μ.length] (μ ++ [.lst (dsi ((List.range ns.length).filter fun a => decide (ns.getD a 0 ∈ E)))]) fun t μ' => endV 1 PT t μ'
          have tok := (Nms.lq ok nm1 lf hf).resolve_right (by omega)
          have lq := Nms.lq2 ok nm1 lf hf
          rw [← hE'] at tok lq ⊢
          refine ⟨by omega, mkT_live (n := 2) (by simp) (up _ st.h2) (fun d z => nomatch z) ?_⟩
          have p4 : Pur (k + 1000) o4 := p4.mono (by omega)
          refine end_tab1 (t := (μ ++ [O.lst (dsi E')]).length) (r := 2) (e := μ.length) (ls := ls) (L := L) (R := f) (E := E') (o := o4) (by rw [List.append_assoc]; exact up _ st.h0) p4.ren ⟨at_end, by rw [List.append_assoc]; exact up _ st.h2, by rw [List.append_assoc, List.getElem?_append_right (Nat.le_refl _)]; simp, st.len, fun i l q hi hq => by rw [List.append_assoc]; exact up _ (st.row i l q hi hq)⟩ ?_ (hP _ _ _ p4 tok (by omega) lq)
          simp only [List.length_append, List.length_cons, List.length_nil, List.nodup_cons, List.mem_cons, not_or]
          refine ⟨⟨by omega, by omega, by omega, fun m => ?_⟩, ⟨by omega, by omega, fun m => ?_⟩, ⟨by omega, fun m => ?_⟩, fun m => ?_, st.nd⟩
          · have := lls _ m; omega
          · have := lls _ m; omega
          · have := lls _ m; omega
          · have := lls _ m; omega
theorem TB.mask {μ : Mu} {k x : Nat} {L E : List Nat} {R : Rows} (h : TB μ k L R E) (hx : x < k ∨ k + 3 + R.length ≤ x) : TB (mask [x] μ) k L R E := h.kp fun n o a b e => mask_out e (fun m => by
  have : n = x := by simpa using m
  omega)
theorem c_qt_renumbered {x t : Nat} {o : O} {k : Int} {L E : List Nat} {R : Rows} {extra : Nat} {μ : Mu} {P : KT} {PX : KX} (h : μ[x]? = some o) (hp : Pur k o) (hk : k < 2 ^ 36) (ht : TB μ t L R E) (hx : x < t ∨ t + 3 + R.length ≤ x) (ok : Tok L R E) (rl : R.length ≤ 40) (lL : L.length ≤ 6) (hx2 : extra ≤ 10)
    (hP : ∀ o' R' E', Pur (k + 1000) o' → Tok L R' E' → R'.length ≤ R.length + extra → Lq L.length R' E' R E 0 0 → P (.loc μ.length) (μ.set x o' ++ tabM μ.length L R' E')) : callD (Dn 3 d__law_qt_renumbered) [.loc x, .loc t, .dat (.int (extra : Nat))] μ P PX :=
  call_pt (ds := [tabD L R E, .int (extra : Nat)]) h hp.ren hp.nm (by simp [toDs, toD_dat, (ht.mask hx).toD (k := 5)]) (fun u m => by
    simp at m
    rcases m with rfl | rfl
    · exact nm_loc ht.t (fun d z => nomatch z)
    · rfl) fun PT PX' kk => ⟨rfl, o, k, L, R, E, extra, rfl, rfl, hp, hk, ok, rl, lL, hx2, fun o' R' E' p tok l lq => kk o' L R' E' p.at p.ren (hP o' R' E' p tok l lq)⟩
def w__law_qt_bent_1 : WpS := (wRet (wTup (wCons (wVar 2) (wCons (wVar 3) (wCons (wVar 4) wNil)))))
def w__law_qt_bent_2 : WpS := (wSeq (wIfS (wB (wOp oEqA (wVar 5) (wC (.int 0)))) (wAsg (wLc (wiR1 (wCons (wCB cLen (wCons (wVar 3) wNil)) wNil)) (wgName 7) (wB (wOp oNeA (wOp oIn (wVar 7) (wVar 4)) (wOp oEqA (wVar 7) (wVar 6)))) (wVar 7) [7]) (wgName 4)) (wIfS (wAnd (wB (wOp oEqA (wVar 5) (wC (.int 1)))) (wB (wOp oNeA (wVar 2) (wC (.str ""))))) (wAsg (wCall (Dn 2 d__law_coin) (wCons (wVar 0) (wCons (wCB cLen (wCons (wVar 3) wNil)) wNil))) (wgSub (wOp oIx (wVar 3) (wVar 6)) (wCall (Dn 2 d__law_coin) (wCons (wVar 0) (wCons (wCB cLen (wCons (wVar 2) wNil)) wNil))) oSetL)) wNext))
    w__law_qt_bent_1)
def w__law_qt_bent_3 : WpS := (wSeq (wAsg (wTup (wCons (wCall (Dn 2 d__law_coin) (wCons (wVar 0) (wCons (wC (.int 4)) wNil))) (wCons (wCall (Dn 2 d__law_coin) (wCons (wVar 0) (wCons (wCB cLen (wCons (wVar 3) wNil)) wNil))) wNil))) (wgTup 2 (wgCons (wgName 5) (wgCons (wgName 6) wgNil))))
    w__law_qt_bent_2)
def w__law_qt_bent : WpS := (wSeq (wAsg (wCall (Dn 1 d__law_qt_copy) (wCons (wVar 1) wNil)) (wgTup 3 (wgCons (wgName 2) (wgCons (wgName 3) (wgCons (wgName 4) wgNil)))))
    w__law_qt_bent_3)
def d__law_qt_bent : DSp := fun ts μ P _ => ∃ (o : O) (k : Int) (L : List Nat) (R : Rows) (E : List Nat), ts = [.loc 0, .dat (tabD L R E)] ∧ μ = [o] ∧ Pur k o ∧ k < 2 ^ 36 ∧ Tok L R E ∧ ∀ o' R' E', Pur (k + 5) o' → Tok L R' E' → R'.length = R.length → P (.loc 1) (o' :: tabM 1 L R' E')
theorem p__law_qt_bent (ts : List T) (μ : Mu) (PT : KT) (PX : KX) (h : d__law_qt_bent ts μ PT PX) : w__law_qt_bent (DEof μ.length PT PX) (startE 8 ts) μ := by
  obtain ⟨o, k, L, R, E, rfl, rfl, hp, hk, ok, hP⟩ := h
  have hs := sizeLine_ge
  have gt := ok.gt
  have n0 := gt.ne
  have rl := ok.rl
  have sg3 := ok.sg.2.2
  simp [w__law_qt_bent, DE.px, wSeq, wIfS, wB, wOp, wVar, wC, startE, asB, nm_dat, nm, oI, rdQ, rdL, rdT, wAsg, wgName, wgSub, wRet, wRetN, wNext, wDrop, wCall, wCB, wPar, wBM, wSl, wPart, wNoPart, wgTup, wgCons, wgNil, wCons, wNil, cInt, itR, itT, itS, itL, wiR1, wiR2, wiT, wiS, wiL, wLc_eq, wFor_eq, wYes, wipeE, oAdd_int, oEqA_int', oEqA_str', oNeA_str', CTrue, gGt, gMul, gMod, gPow, gDiv, gSub, gLt, gLe, gGe, gAdd, gNeg, gMax, gMin, gAbs, cI1, cI2, wUn, uI, wIf, wTru, asTru, truT, wNot, wAnd, wOr, wAndV, wOrV, wNotV, wLst, wTup, mkL, nm, wStarA, wRev, wPar3, wSetF, wFld, rdI, putT, wProp, wMake, wMeth, wSortSet, List.lookup]
  refine c_qt_copy (L := L) (R := R) (E := E) (toD_dat _ _ _) (by omega) ?_
  have tb : TB ([o] ++ tabM [o].length L R E) 1 L R E := TB.of fun i u hi => by rw [List.getElem?_append_right (by simp)]; simpa using hi
  have h0 : ([o] ++ tabM [o].length L R E)[0]? = some o := rfl
  have hl : ([o] ++ tabM [o].length L R E).length = R.length + 4 := by simp
  generalize [o] ++ tabM [o].length L R E = μ at tb h0 hl
  simp [DE.px, wSeq, wIfS, wB, wOp, wVar, wC, startE, asB, nm_dat, nm, oI, rdQ, rdL, rdT, wAsg, wgName, wgSub, wRet, wRetN, wNext, wDrop, wCall, wCB, wPar, wBM, wSl, wPart, wNoPart, wgTup, wgCons, wgNil, wCons, wNil, cInt, itR, itT, itS, itL, wiR1, wiR2, wiT, wiS, wiL, wLc_eq, wFor_eq, wYes, wipeE, oAdd_int, oEqA_int', oEqA_str', oNeA_str', CTrue, gGt, gMul, gMod, gPow, gDiv, gSub, gLt, gLe, gGe, gAdd, gNeg, gMax, gMin, gAbs, cI1, cI2, wUn, uI, wIf, wTru, asTru, truT, wNot, wAnd, wOr, wAndV, wOrV, wNotV, wLst, wTup, mkL, nm, wStarA, wRev, wPar3, wSetF, wFld, rdI, putT, wProp, wMake, wMeth, wSortSet, List.lookup, tb.t]
  simp [w__law_qt_bent_3, DE.px, wSeq, wIfS, wB, wOp, wVar, wC, startE, asB, nm_dat, nm, oI, rdQ, rdL, rdT, wAsg, wgName, wgSub, wRet, wRetN, wNext, wDrop, wCall, wCB, wPar, wBM, wSl, wPart, wNoPart, wgTup, wgCons, wgNil, wCons, wNil, cInt, itR, itT, itS, itL, wiR1, wiR2, wiT, wiS, wiL, wLc_eq, wFor_eq, wYes, wipeE, oAdd_int, oEqA_int', oEqA_str', oNeA_str', CTrue, gGt, gMul, gMod, gPow, gDiv, gSub, gLt, gLe, gGe, gAdd, gNeg, gMax, gMin, gAbs, cI1, cI2, wUn, uI, wIf, wTru, asTru, truT, wNot, wAnd, wOr, wAndV, wOrV, wNotV, wLst, wTup, mkL, nm, wStarA, wRev, wPar3, wSetF, wFld, rdI, putT, wProp, wMake, wMeth, wSortSet, List.lookup]
  refine c_coin (k := k) h0 hp (by omega) (by decide) (by decide) fun way o1 w0 w1 p1 => ?_
  have tb1 : TB (μ.set 0 o1) 1 L R E := tb.set (.inl (by omega))
  have h1 : (μ.set 0 o1)[0]? = some o1 := List.getElem?_set_self (by omega)
  refine cLen_live tb1.r ?_
  simp [DE.px, wSeq, wIfS, wB, wOp, wVar, wC, startE, asB, nm_dat, nm, oI, rdQ, rdL, rdT, wAsg, wgName, wgSub, wRet, wRetN, wNext, wDrop, wCall, wCB, wPar, wBM, wSl, wPart, wNoPart, wgTup, wgCons, wgNil, wCons, wNil, cInt, itR, itT, itS, itL, wiR1, wiR2, wiT, wiS, wiL, wLc_eq, wFor_eq, wYes, wipeE, oAdd_int, oEqA_int', oEqA_str', oNeA_str', CTrue, gGt, gMul, gMod, gPow, gDiv, gSub, gLt, gLe, gGe, gAdd, gNeg, gMax, gMin, gAbs, cI1, cI2, wUn, uI, wIf, wTru, asTru, truT, wNot, wAnd, wOr, wAndV, wOrV, wNotV, wLst, wTup, mkL, nm, wStarA, wRev, wPar3, wSetF, wFld, rdI, putT, wProp, wMake, wMeth, wSortSet, List.lookup]
  refine c_coin (k := k + 1) h1 p1 (by omega) (by omega) (by omega) fun at' o2 a0 a1 p2 => ?_
  have tb2 : TB ((μ.set 0 o1).set 0 o2) 1 L R E := tb1.set (.inl (by omega))
  have h2 : ((μ.set 0 o1).set 0 o2)[0]? = some o2 := List.getElem?_set_self (by simp; omega)
  have l2 : ((μ.set 0 o1).set 0 o2).length = R.length + 4 := by simp [hl]
  generalize (μ.set 0 o1).set 0 o2 = ν at tb2 h2 l2
  obtain ⟨a', rfl⟩ : ∃ a' : Nat, at' = a' := ⟨at'.toNat, by omega⟩
  have la : a' < R.length := by omega
  refine ⟨by omega, (mkT_2 _ _ _ _).mpr ?_⟩
  simp [DE.px, wSeq, wIfS, wB, wOp, wVar, wC, startE, asB, nm_dat, nm, oI, rdQ, rdL, rdT, wAsg, wgName, wgSub, wRet, wRetN, wNext, wDrop, wCall, wCB, wPar, wBM, wSl, wPart, wNoPart, wgTup, wgCons, wgNil, wCons, wNil, cInt, itR, itT, itS, itL, wiR1, wiR2, wiT, wiS, wiL, wLc_eq, wFor_eq, wYes, wipeE, oAdd_int, oEqA_int', oEqA_str', oNeA_str', CTrue, gGt, gMul, gMod, gPow, gDiv, gSub, gLt, gLe, gGe, gAdd, gNeg, gMax, gMin, gAbs, cI1, cI2, wUn, uI, wIf, wTru, asTru, truT, wNot, wAnd, wOr, wAndV, wOrV, wNotV, wLst, wTup, mkL, nm, wStarA, wRev, wPar3, wSetF, wFld, rdI, putT, wProp, wMake, wMeth, wSortSet, List.lookup]
  -- what is handed back
  have fin : ∀ (ν : Mu) (o : O) (e : Nat) (R' : Rows) (E' : List Nat), ν[0]? = some o → Pur (k + 5) o → TAt (ν ++ [.tup [.dat (.str (tz L)), .loc 2, .loc e]]) ν.length 2 e (bls 1 R.length) L R' E' → Tok L R' E' → R'.length = R.length → (e = 3 ∨ R.length + 4 ≤ e) → e < ν.length → R.length + 4 ≤ ν.length → w__law_qt_bent_1 (DEof 1 PT PX) [some (.loc 0), some (.dat (tabD L R E)), some (.dat (.str (tz L))), some (.loc 2), some (.loc e), some (.dat (.int way)), some (.dat (.int (a' : Nat))), none] ν := fun ν o e R' E' h0 p ta tok lR he le lν => by
    simp [w__law_qt_bent_1, DE.px, wSeq, wIfS, wB, wOp, wVar, wC, startE, asB, nm_dat, nm, oI, rdQ, rdL, rdT, wAsg, wgName, wgSub, wRet, wRetN, wNext, wDrop, wCall, wCB, wPar, wBM, wSl, wPart, wNoPart, wgTup, wgCons, wgNil, wCons, wNil, cInt, itR, itT, itS, itL, wiR1, wiR2, wiT, wiS, wiL, wLc_eq, wFor_eq, wYes, wipeE, oAdd_int, oEqA_int', oEqA_str', oNeA_str', CTrue, gGt, gMul, gMod, gPow, gDiv, gSub, gLt, gLe, gGe, gAdd, gNeg, gMax, gMin, gAbs, cI1, cI2, wUn, uI, wIf, wTru, asTru, truT, wNot, wAnd, wOr, wAndV, wOrV, wNotV, wLst, wTup, mkL, nm, wStarA, wRev, wPar3, wSetF, wFld, rdI, putT, wProp, wMake, wMeth, wSortSet, List.lookup]
    refine ⟨by omega, mkT_live (n := 2) (o := .lst ((bls 1 R.length).map .loc)) (by simp) ?_ (fun d z => nomatch z) ?_⟩
    · have := ta.r
      rw [List.getElem?_append_left (by omega)] at this
      exact this
    · refine end_tab1 (by rw [List.getElem?_append_left (by omega)]; exact h0) p.ren ta ?_ (hP _ _ _ p tok lR)
      have hm : ∀ x ∈ bls 1 R.length, 4 ≤ x ∧ x < R.length + 4 := fun x m => by
        simp at m
        omega
      simp only [List.nodup_cons, List.mem_cons, not_or]
      refine ⟨⟨by omega, by omega, by omega, fun m => ?_⟩, ⟨by omega, by omega, fun m => ?_⟩, ⟨by omega, fun m => ?_⟩, fun m => ?_, ?_⟩
      · have := hm _ m; omega
      · have := hm _ m; omega
      · have := hm _ m; omega
      · have := hm _ m; omega
      · exact List.pairwise_map.mpr (List.nodup_range.imp fun {a b} z e => z (by omega))
  have up : ∀ {n : Nat} {o : O} {μ : Mu} (g : Mu), μ[n]? = some o → (μ ++ g)[n]? = some o := fun g h => by
    rw [List.getElem?_append_left (List.getElem?_eq_some_iff.mp h).1]
    exact h
  have same : ∀ (ν : Mu) (o : O) (R' : Rows), TB ν 1 L R' E → R'.length = R.length → ν[0]? = some o → TAt (ν ++ [.tup [.dat (.str (tz L)), .loc 2, .loc 3]]) ν.length 2 3 (bls 1 R.length) L R' E := fun ν o R' tb lR h0 =>
    ⟨at_end, by rw [← lR]; exact up _ tb.r, up _ tb.e, by simp [lR], fun i l q hi hq => up _ (tb.row i l q (by rw [lR]; exact hi) hq)⟩
  simp [w__law_qt_bent_2, DE.px, wSeq, wIfS, wB, wOp, wVar, wC, startE, asB, nm_dat, nm, oI, rdQ, rdL, rdT, wAsg, wgName, wgSub, wRet, wRetN, wNext, wDrop, wCall, wCB, wPar, wBM, wSl, wPart, wNoPart, wgTup, wgCons, wgNil, wCons, wNil, cInt, itR, itT, itS, itL, wiR1, wiR2, wiT, wiS, wiL, wLc_eq, wFor_eq, wYes, wipeE, oAdd_int, oEqA_int', oEqA_str', oNeA_str', CTrue, gGt, gMul, gMod, gPow, gDiv, gSub, gLt, gLe, gGe, gAdd, gNeg, gMax, gMin, gAbs, cI1, cI2, wUn, uI, wIf, wTru, asTru, truT, wNot, wAnd, wOr, wAndV, wOrV, wNotV, wLst, wTup, mkL, nm, wStarA, wRev, wPar3, wSetF, wFld, rdI, putT, wProp, wMake, wMeth, wSortSet, List.lookup]
  by_cases c0 : way = 0
  · rw [if_pos c0]
    refine cLen_live tb2.r ?_
    simp [DE.px, wSeq, wIfS, wB, wOp, wVar, wC, startE, asB, nm_dat, nm, oI, rdQ, rdL, rdT, wAsg, wgName, wgSub, wRet, wRetN, wNext, wDrop, wCall, wCB, wPar, wBM, wSl, wPart, wNoPart, wgTup, wgCons, wgNil, wCons, wNil, cInt, itR, itT, itS, itL, wiR1, wiR2, wiT, wiS, wiL, wLc_eq, wFor_eq, wYes, wipeE, oAdd_int, oEqA_int', oEqA_str', oNeA_str', CTrue, gGt, gMul, gMod, gPow, gDiv, gSub, gLt, gLe, gGe, gAdd, gNeg, gMax, gMin, gAbs, cI1, cI2, wUn, uI, wIf, wTru, asTru, truT, wNot, wAnd, wOr, wAndV, wOrV, wNotV, wLst, wTup, mkL, nm, wStarA, wRev, wPar3, wSetF, wFld, rdI, putT, wProp, wMake, wMeth, wSortSet, List.lookup]
    refine ⟨by omega, ?_⟩
    refine lc_filt (fun i => .dat (.int (i : Nat))) (fun i => decide (decide (i ∈ E) ≠ decide (i = a'))) trivial (by show R.length ≤ _; omega) (fun i hi Q Qf q1 q2 => ?_) ?_
    · simp [DE.px, wSeq, wIfS, wB, wOp, wVar, wC, startE, asB, nm_dat, nm, oI, rdQ, rdL, rdT, wAsg, wgName, wgSub, wRet, wRetN, wNext, wDrop, wCall, wCB, wPar, wBM, wSl, wPart, wNoPart, wgTup, wgCons, wgNil, wCons, wNil, cInt, itR, itT, itS, itL, wiR1, wiR2, wiT, wiS, wiL, wLc_eq, wFor_eq, wYes, wipeE, oAdd_int, oEqA_int', oEqA_str', oNeA_str', CTrue, gGt, gMul, gMod, gPow, gDiv, gSub, gLt, gLe, gGe, gAdd, gNeg, gMax, gMin, gAbs, cI1, cI2, wUn, uI, wIf, wTru, asTru, truT, wNot, wAnd, wOr, wAndV, wOrV, wNotV, wLst, wTup, mkL, nm, wStarA, wRev, wPar3, wSetF, wFld, rdI, putT, wProp, wMake, wMeth, wSortSet, List.lookup]
      refine oIn_n (rdQ_live tb2.e) ?_
      refine oNeA_dd (toD_dat _ _ _) (toD_dat _ _ _) (by cases decide (i ∈ E) <;> decide) (by cases decide ((i : Int) = (a' : Nat)) <;> decide) ?_
      have ed : decide ((i : Int) = (a' : Nat)) = decide (i = a') := decide_eq_decide.mpr (by omega)
      rw [ed]
      have eb : ∀ x y : Bool, (!PyData.eqv (.bool x) (.bool y)) = decide (x ≠ y) := fun x y => by cases x <;> cases y <;> decide
      rw [eb]
      cases hb : decide (decide (i ∈ E) ≠ decide (i = a')) with
      | true => exact q1 hb
      | false => exact q2 hb
    · obtain ⟨E', hE'⟩ : ∃ E', E' = (List.range R.length).filter fun i => decide (decide (i ∈ E) ≠ decide (i = a')) := ⟨_, rfl⟩
      show w__law_qt_bent_1 _ _ (ν ++ [.lst (dsi ((List.range R.length).filter fun i => decide (decide (i ∈ E) ≠ decide (i = a'))))])
      rw [← hE']
      have tok : Tok L R E' := ⟨ok.low, ok.asc, gt, rl, by rw [hE']; exact List.Pairwise.filter _ List.pairwise_lt_range, fun x m => by
        rw [hE'] at m
        exact List.mem_range.mp (List.mem_filter.mp m).1⟩
      refine fin _ o2 ν.length R E' (up _ h2) (p2.mono (by omega)) ⟨at_end, up _ (up _ tb2.r), ?_, by simp, fun i l q hi hq => up _ (up _ (tb2.row i l q hi hq))⟩ tok rfl (.inr (by omega)) (by simp) (by simp; omega)
      exact up _ at_end
  · rw [if_neg c0]
    by_cases c1 : way = 1
    · rw [if_pos c1]
      by_cases cL : tz L = Str.ofString ""
      · rw [if_pos cL]
        exact fin ν o2 3 R E h2 (p2.mono (by omega)) (same ν o2 R tb2 rfl h2) ok rfl (.inl rfl) (by omega) (by omega)
      · rw [if_neg cL]
        have lL : 0 < L.length := by
          cases L with
          | nil => exact absurd rfl cL
          | cons c L => simp
        have lL2 := asc_len ok.asc (n := 123) fun x m => by
          have := ok.low x m
          simp [low] at this
          omega
        refine cLen_live tb2.r ?_
        simp [DE.px, wSeq, wIfS, wB, wOp, wVar, wC, startE, asB, nm_dat, nm, oI, rdQ, rdL, rdT, wAsg, wgName, wgSub, wRet, wRetN, wNext, wDrop, wCall, wCB, wPar, wBM, wSl, wPart, wNoPart, wgTup, wgCons, wgNil, wCons, wNil, cInt, itR, itT, itS, itL, wiR1, wiR2, wiT, wiS, wiL, wLc_eq, wFor_eq, wYes, wipeE, oAdd_int, oEqA_int', oEqA_str', oNeA_str', CTrue, gGt, gMul, gMod, gPow, gDiv, gSub, gLt, gLe, gGe, gAdd, gNeg, gMax, gMin, gAbs, cI1, cI2, wUn, uI, wIf, wTru, asTru, truT, wNot, wAnd, wOr, wAndV, wOrV, wNotV, wLst, wTup, mkL, nm, wStarA, wRev, wPar3, wSetF, wFld, rdI, putT, wProp, wMake, wMeth, wSortSet, List.lookup]
        refine c_coin (k := k + 1 + 1) h2 p2 (by omega) (by omega) (by omega) fun v o3 v0 v1 p3 => ?_
        obtain ⟨v', rfl⟩ : ∃ v' : Nat, v = v' := ⟨v.toNat, by omega⟩
        have tb3 : TB (ν.set 0 o3) 1 L R E := tb2.set (.inl (by omega))
        have h3 : (ν.set 0 o3)[0]? = some o3 := List.getElem?_set_self (by omega)
        have l3 : (ν.set 0 o3).length = R.length + 4 := by simp [l2]
        generalize ν.set 0 o3 = ν3 at tb3 h3 l3
        refine oIx_live (t := .loc (a' + 4)) tb3.r ?_ ?_
        · refine atI_nat ?_
          simp [la]
          omega
        refine cLen_str (by omega) ?_
        refine c_coin (k := k + 1 + 1 + 1) h3 p3 (by omega) (by omega) (by omega) fun c o4 c0 c1 p4 => ?_
        obtain ⟨c', rfl⟩ : ∃ c' : Nat, c = c' := ⟨c.toNat, by omega⟩
        have tb4 : TB (ν3.set 0 o4) 1 L R E := tb3.set (.inl (by omega))
        have h4 : (ν3.set 0 o4)[0]? = some o4 := List.getElem?_set_self (by omega)
        have l4 : (ν3.set 0 o4).length = R.length + 4 := by simp [l3]
        generalize ν3.set 0 o4 = ν4 at tb4 h4 l4
        obtain ⟨q, hq⟩ : ∃ q, R[a']? = some q := ⟨_, List.getElem?_eq_getElem la⟩
        have hrow : ν4[a' + 4]? = some (.lst (dsi q)) := by
          refine tb4.row a' (a' + 4) q ?_ hq
          simp [la]
          omega
        have lq := gt.w q (List.mem_of_getElem? hq)
        refine oSetL_live hrow (by omega) (by rw [dsi_len]; omega) ?_
        have e9 : (dsi q).set ((c' : Nat) : Int).toNat (.dat (.int (v' : Nat))) = dsi (q.set c' v') := by
          rw [Int.toNat_natCast]
          unfold dsi
          rw [List.map_set]
        rw [e9]
        obtain ⟨R', hR'⟩ : ∃ R', R' = R.set a' (q.set c' v') := ⟨_, rfl⟩
        have lR' : R'.length = R.length := by rw [hR']; simp
        have tok : Tok L R' E := by
          refine ⟨ok.low, ok.asc, ⟨by omega, fun r m => ?_, fun r m x mx => ?_⟩, by omega, ok.ea, fun x m => by rw [lR']; exact ok.el x m⟩
          · rw [hR'] at m
            rcases List.mem_or_eq_of_mem_set m with m | m
            · exact gt.w r m
            · rw [m, List.length_set, lq]
          · rw [hR'] at m
            rw [lR']
            rcases List.mem_or_eq_of_mem_set m with m | m
            · exact gt.lt r m x mx
            · rw [m] at mx
              rcases List.mem_or_eq_of_mem_set mx with mx | mx
              · exact gt.lt q (List.mem_of_getElem? hq) x mx
              · omega
        have tb5 : TB (ν4.set (a' + 4) (.lst (dsi (q.set c' v')))) 1 L R' E := by
          refine ⟨?_, ?_, ?_, ?_, fun i l r hi hr => ?_⟩
          · rw [List.getElem?_set_ne (by omega)]; exact tb4.t
          · rw [List.getElem?_set_ne (by omega), lR']; exact tb4.r
          · rw [List.getElem?_set_ne (by omega)]; exact tb4.e
          · simp
          · rw [lR'] at hi
            have el : 4 + i = l := by
              have li := (List.getElem?_eq_some_iff.mp hi).1
              simp at li
              simp [li] at hi
              omega
            by_cases ci : i = a'
            · subst ci
              rw [hR', List.getElem?_set_self (by omega)] at hr
              cases hr
              rw [← el, Nat.add_comm 4, List.getElem?_set_self (by omega)]
            · rw [hR', List.getElem?_set_ne (by omega)] at hr
              rw [List.getElem?_set_ne (by omega)]
              exact tb4.row i l r hi hr
        have h5 : (ν4.set (a' + 4) (.lst (dsi (q.set c' v'))))[0]? = some o4 := by
          rw [List.getElem?_set_ne (by omega)]
          exact h4
        exact fin _ o4 3 R' E h5 (p4.mono (by omega)) (same _ o4 R' tb5 lR' h5) tok lR' (.inl rfl) (by simp; omega) (by simp; omega)
    · rw [if_neg c1]
      exact fin ν o2 3 R E h2 (p2.mono (by omega)) (same ν o2 R tb2 rfl h2) ok rfl (.inl rfl) (by omega) (by omega)
theorem c_qt_bent {x t : Nat} {o : O} {k : Int} {L E : List Nat} {R : Rows} {μ : Mu} {P : KT} {PX : KX} (h : μ[x]? = some o) (hp : Pur k o) (hk : k < 2 ^ 36) (ht : TB μ t L R E) (hx : x < t ∨ t + 3 + R.length ≤ x) (ok : Tok L R E)
    (hP : ∀ o' R' E', Pur (k + 5) o' → Tok L R' E' → R'.length = R.length → P (.loc μ.length) (μ.set x o' ++ tabM μ.length L R' E')) : callD (Dn 2 d__law_qt_bent) [.loc x, .loc t] μ P PX :=
  call_pt (ds := [tabD L R E]) h hp.ren hp.nm (by simp [toDs, (ht.mask hx).toD (k := 5)]) (fun u m => by
    simp at m
    rcases m with rfl
    exact nm_loc ht.t (fun d z => nomatch z)) fun PT PX' kk => ⟨rfl, o, k, L, R, E, rfl, rfl, hp, hk, ok, fun o' R' E' p tok l => kk o' L R' E' p.at p.ren (hP o' R' E' p tok l)⟩
end DL
/-! FT1: the first text by which a goal can be come to, in plain lists. -/
namespace Ft
variable {α : Type} [DecidableEq α]
/-- shorter, or as long and ahead in the order of texts -/
def Slt (u w : List Nat) : Prop := u.length < w.length ∨ (u.length = w.length ∧ u < w)
theorem slt_irrefl (u : List Nat) : ¬ Slt u u := fun h => by
  rcases h with h | ⟨_, h⟩
  · omega
  · exact List.lt_irrefl u h
theorem slt_trans {a b c : List Nat} (h : Slt a b) (k : Slt b c) : Slt a c := by
  rcases h with h | ⟨h1, h2⟩ <;> rcases k with k | ⟨k1, k2⟩
  · exact .inl (by omega)
  · exact .inl (by omega)
  · exact .inl (by omega)
  · exact .inr ⟨by omega, List.lt_trans h2 k2⟩
theorem lt_tri (a b : List Nat) : a < b ∨ a = b ∨ b < a := by
  by_cases h : a < b
  · exact .inl h
  · by_cases k : b < a
    · exact .inr (.inr k)
    · exact .inr (.inl (List.le_antisymm (List.not_lt.mp k) (List.not_lt.mp h)))
theorem slt_tri (a b : List Nat) : Slt a b ∨ a = b ∨ Slt b a := by
  by_cases h : a.length < b.length
  · exact .inl (.inl h)
  · by_cases k : b.length < a.length
    · exact .inr (.inr (.inl k))
    · have e : a.length = b.length := by omega
      rcases lt_tri a b with z | z | z
      · exact .inl (.inr ⟨e, z⟩)
      · exact .inr (.inl z)
      · exact .inr (.inr (.inr ⟨e.symm, z⟩))
theorem lt_snoc {a b : List Nat} {c d : Nat} (hl : a.length = b.length) : a ++ [c] < b ++ [d] ↔ a < b ∨ (a = b ∧ c < d) := by
  induction a generalizing b with
  | nil =>
    cases b with
    | nil => simp [List.cons_lt_cons_iff]
    | cons y b => simp at hl
  | cons x a ih =>
    cases b with
    | nil => simp at hl
    | cons y b =>
      have hl : a.length = b.length := by simpa using hl
      rw [List.cons_append, List.cons_append, List.cons_lt_cons_iff, List.cons_lt_cons_iff, ih hl]
      constructor
      · rintro (h | ⟨rfl, h | ⟨rfl, h⟩⟩)
        · exact .inl (.inl h)
        · exact .inl (.inr ⟨rfl, h⟩)
        · exact .inr ⟨rfl, h⟩
      · rintro ((h | ⟨rfl, h⟩) | ⟨h, k⟩)
        · exact .inl h
        · exact .inr ⟨rfl, .inl h⟩
        · cases h
          exact .inr ⟨rfl, .inr ⟨rfl, k⟩⟩
/-- words over some letters -/
abbrev Ov (L w : List Nat) : Prop := ∀ c ∈ w, c ∈ L
/-- what is the first text that is wanted -/
def First (L : List Nat) (acc : List Nat → Prop) : Option (List Nat) → Prop
  | none => ∀ w, Ov L w → ¬ acc w
  | some w => Ov L w ∧ acc w ∧ ∀ u, Ov L u → acc u → ¬ Slt u w
theorem first_one {L : List Nat} {acc : List Nat → Prop} {r q : Option (List Nat)} (h : First L acc r) (k : First L acc q) : r = q := by
  cases r with
  | none =>
    cases q with
    | none => rfl
    | some w => exact absurd k.2.1 (h w k.1)
  | some u =>
    cases q with
    | none => exact absurd h.2.1 (k u h.1)
    | some w =>
      rcases slt_tri u w with z | z | z
      · exact absurd z (k.2.2 u h.1 h.2.1)
      · rw [z]
      · exact absurd z (h.2.2 w k.1 k.2.1)
theorem first_iff {L : List Nat} {acc acc' : List Nat → Prop} (e : ∀ w, Ov L w → (acc w ↔ acc' w)) {r : Option (List Nat)} (h : First L acc r) : First L acc' r := by
  cases r with
  | none => exact fun w o a => h w o ((e w o).mpr a)
  | some w => exact ⟨h.1, (e w h.1).mp h.2.1, fun u o a => h.2.2 u o ((e u o).mpr a)⟩
/-- the nodes that a word leads to -/
def rs (step : α → Nat → List α) (ns : List α) (w : List Nat) : List α := w.foldl (fun S c => S.flatMap fun v => step v c) ns
theorem rs_snoc {step : α → Nat → List α} {ns : List α} {w : List Nat} {c : Nat} {v : α} : v ∈ rs step ns (w ++ [c]) ↔ ∃ u ∈ rs step ns w, v ∈ step u c := by
  unfold rs
  rw [List.foldl_append]
  simp [List.mem_flatMap]
/-- w is the first word that leads to v -/
def Lst (L : List Nat) (step : α → Nat → List α) (ns : List α) (w : List Nat) (v : α) : Prop := Ov L w ∧ v ∈ rs step ns w ∧ ∀ u, Ov L u → Slt u w → v ∉ rs step ns u
def Rn (n : Nat) (u w : List Nat) : Prop := u.length = n ∧ w.length = n ∧ u < w
theorem rn_acc : ∀ (n : Nat) (w : List Nat), w.length = n → Acc (Rn n) w
  | 0, w, hw => ⟨_, fun u h => by
    have e : w = [] := List.length_eq_zero_iff.mp hw
    subst e
    exact absurd h.2.2 (List.not_lt_nil u)⟩
  | n + 1, w, hw => by
    have main : ∀ (c : Nat) (t : List Nat), t.length = n → Acc (Rn (n + 1)) (c :: t) := fun c => by
      induction c using Nat.strongRecOn with
      | ind c ihc =>
        intro t ht
        have at_ := rn_acc n t ht
        induction at_ with
        | intro t _ iht =>
          refine ⟨_, fun u h => ?_⟩
          obtain ⟨h1, h2, h3⟩ := h
          cases u with
          | nil => simp at h1
          | cons d s =>
            have hs : s.length = n := by simpa using h1
            rcases List.cons_lt_cons_iff.mp h3 with z | ⟨rfl, z⟩
            · exact ihc d z s hs
            · exact iht s ⟨hs, ht, z⟩ hs
    cases w with
    | nil => simp at hw
    | cons c t => exact main c t (by simpa using hw)
theorem slt_acc (w : List Nat) : Acc Slt w := by
  have main : ∀ (n : Nat) (w : List Nat), w.length = n → Acc Slt w := fun n => by
    induction n using Nat.strongRecOn with
    | ind n ih =>
      intro w hw
      have aw := rn_acc n w hw
      induction aw with
      | intro w _ iw =>
        refine ⟨_, fun u h => ?_⟩
        rcases h with h | ⟨h1, h2⟩
        · exact ih u.length (by omega) u rfl
        · exact iw u ⟨by omega, hw, h2⟩ (by omega)
  exact main _ w rfl
theorem lst_some {L : List Nat} {step : α → Nat → List α} {ns : List α} {v : α} : ∀ {w : List Nat}, Ov L w → v ∈ rs step ns w → ∃ u, Lst L step ns u v ∧ (u = w ∨ Slt u w) := fun {w} => by
  have aw := slt_acc w
  induction aw with
  | intro w _ ih =>
    intro o m
    by_cases c : ∃ u, Ov L u ∧ Slt u w ∧ v ∈ rs step ns u
    · obtain ⟨u, ou, su, mu⟩ := c
      obtain ⟨x, hx, e⟩ := ih u su ou mu
      exact ⟨x, hx, .inr (e.elim (fun z => z ▸ su) fun z => slt_trans z su)⟩
    · exact ⟨w, ⟨o, m, fun u ou su mu => c ⟨u, ou, su, mu⟩⟩, .inl rfl⟩
theorem ov_snoc {L w : List Nat} {c : Nat} : Ov L (w ++ [c]) ↔ Ov L w ∧ c ∈ L := by
  constructor
  · exact fun h => ⟨fun x m => h x (List.mem_append_left _ m), h c (by simp)⟩
  · rintro ⟨h1, h2⟩ x m
    rcases List.mem_append.mp m with m | m
    · exact h1 x m
    · rw [List.mem_singleton.mp m]; exact h2
theorem slt_snoc {a b : List Nat} {c d : Nat} : Slt (a ++ [c]) (b ++ [d]) ↔ Slt a b ∨ (a = b ∧ c < d) := by
  unfold Slt
  simp only [List.length_append, List.length_cons, List.length_nil]
  constructor
  · rintro (h | ⟨h1, h2⟩)
    · exact .inl (.inl (by omega))
    · rcases (lt_snoc (by omega)).mp h2 with z | ⟨z, k⟩
      · exact .inl (.inr ⟨by omega, z⟩)
      · exact .inr ⟨z, k⟩
  · rintro ((h | ⟨h1, h2⟩) | ⟨rfl, h⟩)
    · exact .inl (by omega)
    · exact .inr ⟨by omega, (lt_snoc h1).mpr (.inl h2)⟩
    · exact .inr ⟨rfl, (lt_snoc rfl).mpr (.inr ⟨rfl, h⟩)⟩
/-- the first word of a node goes on from the first word of another -/
theorem lst_snoc {L : List Nat} {step : α → Nat → List α} {ns : List α} {w : List Nat} {c : Nat} {v : α} (h : Lst L step ns (w ++ [c]) v) : ∃ u, Lst L step ns w u ∧ v ∈ step u c ∧ c ∈ L := by
  obtain ⟨o, m, least⟩ := h
  obtain ⟨ow, oc⟩ := ov_snoc.mp o
  obtain ⟨u, mu, mv⟩ := rs_snoc.mp m
  obtain ⟨q, hq, e⟩ := lst_some ow mu
  rcases e with e | e
  · subst e
    exact ⟨u, hq, mv, oc⟩
  · exact absurd (rs_snoc.mpr ⟨u, hq.2.1, mv⟩) (least (q ++ [c]) (ov_snoc.mpr ⟨hq.1, oc⟩) (slt_snoc.mpr (.inl e)))
/-! ### layer by layer -/
/-- of a list what is not seen yet, once each -/
def addN (seen : List α) : List α → List α × List α
  | [] => (seen, [])
  | x :: r => if x ∈ seen then addN seen r else ((addN (seen ++ [x]) r).1, x :: (addN (seen ++ [x]) r).2)
theorem addN_mem (x : α) : ∀ (xs seen : List α), (x ∈ (addN seen xs).1 ↔ x ∈ seen ∨ x ∈ xs) ∧ (x ∈ (addN seen xs).2 ↔ x ∉ seen ∧ x ∈ xs)
  | [], seen => by simp [addN]
  | y :: r, seen => by
    unfold addN
    split
    · rename_i h
      obtain ⟨h1, h2⟩ := addN_mem x r seen
      refine ⟨h1.trans ?_, h2.trans ?_⟩
      · constructor
        · exact fun z => z.imp id (List.mem_cons_of_mem _)
        · rintro (z | z)
          · exact .inl z
          · rcases List.mem_cons.mp z with e | e
            · exact .inl (e ▸ h)
            · exact .inr e
      · constructor
        · exact fun z => ⟨z.1, List.mem_cons_of_mem _ z.2⟩
        · rintro ⟨z1, z2⟩
          rcases List.mem_cons.mp z2 with e | e
          · exact absurd (e ▸ h) z1
          · exact ⟨z1, e⟩
    · rename_i h
      obtain ⟨h1, h2⟩ := addN_mem x r (seen ++ [y])
      refine ⟨h1.trans ?_, ?_⟩
      · simp [or_assoc]
      · rw [List.mem_cons, h2]
        constructor
        · rintro (e | ⟨z1, z2⟩)
          · exact ⟨e ▸ h, by rw [e]; exact List.mem_cons_self⟩
          · exact ⟨fun z => z1 (List.mem_append_left _ z), List.mem_cons_of_mem _ z2⟩
        · rintro ⟨z1, z2⟩
          by_cases e : x = y
          · exact .inl e
          · exact .inr ⟨fun z => (List.mem_append.mp z).elim z1 fun z => e (List.mem_singleton.mp z), (List.mem_cons.mp z2).resolve_left e⟩
theorem addN_nd : ∀ (xs seen : List α), seen.Nodup → (addN seen xs).1.Nodup
  | [], seen, h => h
  | y :: r, seen, h => by
    unfold addN
    split
    · exact addN_nd r seen h
    · rename_i k
      refine addN_nd r (seen ++ [y]) ?_
      rw [List.nodup_append]
      exact ⟨h, by simp, fun a ha b hb e => k (by rw [← List.mem_singleton.mp hb, ← e]; exact ha)⟩
theorem addN_cons (x : α) (xs seen : List α) : addN seen (x :: xs) = if x ∈ seen then addN seen xs else ((addN (seen ++ [x]) xs).1, x :: (addN (seen ++ [x]) xs).2) := rfl
theorem addN_app : ∀ (xs ys seen : List α), addN seen (xs ++ ys) = ((addN (addN seen xs).1 ys).1, (addN seen xs).2 ++ (addN (addN seen xs).1 ys).2)
  | [], ys, seen => by simp [addN]
  | x :: xs, ys, seen => by
    rw [List.cons_append, addN_cons, addN_cons]
    split
    · exact addN_app xs ys seen
    · rw [addN_app xs ys (seen ++ [x])]
      rfl
abbrev Grp (α : Type) := List (List Nat × List α)
/-- one node group, one letter -/
def pairS (step : α → Nat → List α) (p : List α × Grp α) (g : List Nat × List α) (c : Nat) : List α × Grp α :=
  ((addN p.1 (g.2.flatMap fun v => step v c)).1, if (addN p.1 (g.2.flatMap fun v => step v c)).2 = [] then p.2 else p.2 ++ [(g.1 ++ [c], (addN p.1 (g.2.flatMap fun v => step v c)).2)])
def groupS (step : α → Nat → List α) (L : List Nat) (p : List α × Grp α) (g : List Nat × List α) : List α × Grp α := L.foldl (fun q c => pairS step q g c) p
def layer (step : α → Nat → List α) (L : List Nat) (seen : List α) (gs : Grp α) : List α × Grp α := gs.foldl (groupS step L) (seen, [])
/-- the state at a layer: how far, what was seen, the groups -/
structure Lay (L : List Nat) (step : α → Nat → List α) (goal : α → Bool) (ns : List α) (n : Nat) (seen : List α) (gs : Grp α) : Prop where
  nd : seen.Nodup
  seen : ∀ v, v ∈ seen ↔ ∃ w, Ov L w ∧ w.length ≤ n ∧ v ∈ rs step ns w
  asc : gs.Pairwise fun a b => a.1 < b.1
  len : ∀ g ∈ gs, g.1.length = n
  ok : ∀ g ∈ gs, ∀ v ∈ g.2, Lst L step ns g.1 v
  all : ∀ w v, w.length = n → Lst L step ns w v → ∃ S, (w, S) ∈ gs ∧ v ∈ S
  no : ∀ w v, w.length < n → Lst L step ns w v → goal v = false
/-- within a layer: of the words one longer, those below the bound b are done -/
structure Mid (L : List Nat) (step : α → Nat → List α) (ns : List α) (n : Nat) (below : List Nat → Nat → Prop) (seen : List α) (later : Grp α) : Prop where
  nd : seen.Nodup
  seen : ∀ v, v ∈ seen ↔ (∃ w, Ov L w ∧ w.length ≤ n ∧ v ∈ rs step ns w) ∨ ∃ w c u, below w c ∧ c ∈ L ∧ w.length = n ∧ Lst L step ns w u ∧ v ∈ step u c
  asc : later.Pairwise fun a b => a.1 < b.1
  len : ∀ g ∈ later, ∃ w c, g.1 = w ++ [c] ∧ w.length = n ∧ below w c
  ok : ∀ g ∈ later, ∀ v ∈ g.2, Lst L step ns g.1 v
  all : ∀ w c v, below w c → w.length = n → Lst L step ns (w ++ [c]) v → ∃ S, (w ++ [c], S) ∈ later ∧ v ∈ S
section
variable {L : List Nat} {step : α → Nat → List α} {goal : α → Bool} {ns : List α} {n : Nat} {seen : List α} {gs : Grp α}
theorem Lay.one (h : Lay L step goal ns n seen gs) {w : List Nat} {S S' : List α} (a : (w, S) ∈ gs) (b : (w, S') ∈ gs) : S = S' := by
  obtain ⟨i, hi, ei⟩ := List.mem_iff_getElem.mp a
  obtain ⟨j, hj, ej⟩ := List.mem_iff_getElem.mp b
  have key := List.pairwise_iff_getElem.mp h.asc
  rcases Nat.lt_trichotomy i j with z | z | z
  · have := key i j hi hj z
    rw [ei, ej] at this
    exact absurd this (List.lt_irrefl _)
  · subst z
    rw [ei] at ej
    cases ej
    rfl
  · have := key j i hj hi z
    rw [ei, ej] at this
    exact absurd this (List.lt_irrefl _)
theorem Mid.pair (h : Lay L step goal ns n seen gs) {below : List Nat → Nat → Prop} {sn : List α} {lt : Grp α} (m : Mid L step ns n below sn lt) {w : List Nat} {S : List α} {c : Nat} (hg : (w, S) ∈ gs) (hc : c ∈ L)
    (up : ∀ q d S', (q, S') ∈ gs → d ∈ L → Slt (q ++ [d]) (w ++ [c]) → below q d) (dn : ∀ q d, below q d → Slt (q ++ [d]) (w ++ [c])) :
    Mid L step ns n (fun q d => below q d ∨ (q = w ∧ d = c)) (pairS step (sn, lt) (w, S) c).1 (pairS step (sn, lt) (w, S) c).2 := by
  have lw : w.length = n := h.len _ hg
  have xs : ∀ v, v ∈ S.flatMap (fun v => step v c) ↔ ∃ u, Lst L step ns w u ∧ v ∈ step u c := fun v => by
    rw [List.mem_flatMap]
    constructor
    · rintro ⟨u, mu, mv⟩
      exact ⟨u, h.ok _ hg u mu, mv⟩
    · rintro ⟨u, lu, mv⟩
      obtain ⟨S', hS, mu⟩ := h.all w u lw lu
      rw [h.one hg hS]
      exact ⟨u, mu, mv⟩
  have sn' : ∀ v, v ∈ (pairS step (sn, lt) (w, S) c).1 ↔ v ∈ sn ∨ v ∈ S.flatMap (fun v => step v c) := fun v => (addN_mem v _ _).1
  have fr : ∀ v, v ∈ (addN sn (S.flatMap fun v => step v c)).2 ↔ v ∉ sn ∧ v ∈ S.flatMap (fun v => step v c) := fun v => (addN_mem v _ _).2
  have okF : ∀ v ∈ (addN sn (S.flatMap fun v => step v c)).2, Lst L step ns (w ++ [c]) v := fun v mv => by
    obtain ⟨n1, n2⟩ := (fr v).mp mv
    obtain ⟨u, lu, mu⟩ := (xs v).mp n2
    refine ⟨ov_snoc.mpr ⟨lu.1, hc⟩, rs_snoc.mpr ⟨u, lu.2.1, mu⟩, fun x ox sx mx => n1 ((m.seen v).mpr ?_)⟩
    by_cases le : x.length ≤ n
    · exact .inl ⟨x, ox, le, mx⟩
    · have lx : x.length = n + 1 := by
        rcases sx with z | ⟨z, _⟩ <;> simp [lw] at z <;> omega
      obtain ⟨p, d, rfl⟩ : ∃ p d, x = p ++ [d] := by
        rcases List.eq_nil_or_concat x with z | ⟨p, d, z⟩
        · rw [z] at lx; simp at lx
        · exact ⟨p, d, by simpa using z⟩
      have lp : p.length = n := by simpa using lx
      obtain ⟨op, od⟩ := ov_snoc.mp ox
      obtain ⟨y, my, my2⟩ := rs_snoc.mp mx
      obtain ⟨q, hq, e⟩ := lst_some op my
      have lq : q.length ≤ n := by
        rcases e with e | e
        · rw [e]; omega
        · rcases e with e | ⟨e, _⟩ <;> omega
      by_cases lt' : q.length < n
      · exact .inl ⟨q ++ [d], ov_snoc.mpr ⟨hq.1, od⟩, by simp; omega, rs_snoc.mpr ⟨y, hq.2.1, my2⟩⟩
      · have eq : q.length = n := by omega
        obtain ⟨S', hS, _⟩ := h.all q y eq hq
        refine .inr ⟨q, d, y, up q d S' hS od ?_, od, eq, hq, my2⟩
        rcases e with e | e
        · rw [e]; exact sx
        · exact slt_trans (slt_snoc.mpr (.inl e)) sx
  refine ⟨addN_nd _ _ m.nd, fun v => ?_, ?_, fun g hg' => ?_, fun g hg' => ?_, fun q d v hb lq hv => ?_⟩
  · rw [sn', m.seen, xs]
    constructor
    · rintro ((z | ⟨q, d, u, z1, z2, z3, z4, z5⟩) | ⟨u, lu, mu⟩)
      · exact .inl z
      · exact .inr ⟨q, d, u, .inl z1, z2, z3, z4, z5⟩
      · exact .inr ⟨w, c, u, .inr ⟨rfl, rfl⟩, hc, lw, lu, mu⟩
    · rintro (z | ⟨q, d, u, z1 | ⟨rfl, rfl⟩, z2, z3, z4, z5⟩)
      · exact .inl (.inl z)
      · exact .inl (.inr ⟨q, d, u, z1, z2, z3, z4, z5⟩)
      · exact .inr ⟨u, z4, z5⟩
  · unfold pairS
    dsimp only
    split
    · exact m.asc
    · rw [List.pairwise_append]
      refine ⟨m.asc, by simp, fun a ha b hb => ?_⟩
      rw [List.mem_singleton] at hb
      subst hb
      obtain ⟨q, d, e, lq, hb⟩ := m.len a ha
      show a.1 < w ++ [c]
      rw [e]
      rcases dn q d hb with z | ⟨_, z⟩
      · simp [lq, lw] at z
      · exact z
  · unfold pairS at hg'
    dsimp only at hg'
    split at hg'
    · obtain ⟨q, d, e, lq, hb⟩ := m.len g hg'
      exact ⟨q, d, e, lq, .inl hb⟩
    · rcases List.mem_append.mp hg' with z | z
      · obtain ⟨q, d, e, lq, hb⟩ := m.len g z
        exact ⟨q, d, e, lq, .inl hb⟩
      · rw [List.mem_singleton] at z
        subst z
        exact ⟨w, c, rfl, lw, .inr ⟨rfl, rfl⟩⟩
  · unfold pairS at hg'
    dsimp only at hg'
    split at hg'
    · exact m.ok g hg'
    · rcases List.mem_append.mp hg' with z | z
      · exact m.ok g z
      · rw [List.mem_singleton] at z
        subst z
        exact okF
  · have keep : ∀ {g}, g ∈ lt → g ∈ (pairS step (sn, lt) (w, S) c).2 := fun {g} z => by
      unfold pairS
      dsimp only
      split
      · exact z
      · exact List.mem_append_left _ z
    rcases hb with hb | ⟨rfl, rfl⟩
    · obtain ⟨T, hT, mT⟩ := m.all q d v hb lq hv
      exact ⟨T, keep hT, mT⟩
    · obtain ⟨u, lu, mu, _⟩ := lst_snoc hv
      have mf : v ∈ (addN sn (S.flatMap fun v => step v d)).2 := by
        rw [fr]
        refine ⟨fun z => ?_, (xs v).mpr ⟨u, lu, mu⟩⟩
        rcases (m.seen v).mp z with ⟨x, ox, lx, mx⟩ | ⟨x, e, y, hb, he, lx, hy, my⟩
        · exact hv.2.2 x ox (.inl (by simp; omega)) mx
        · exact hv.2.2 (x ++ [e]) (ov_snoc.mpr ⟨hy.1, he⟩) (dn x e hb) (rs_snoc.mpr ⟨y, hy.2.1, my⟩)
      refine ⟨_, ?_, mf⟩
      unfold pairS
      dsimp only
      rw [if_neg (fun z => by rw [z] at mf; simp at mf)]
      exact List.mem_append_right _ (List.mem_singleton.mpr rfl)
theorem Mid.imp {below below' : List Nat → Nat → Prop} {sn : List α} {lt : Grp α} (m : Mid L step ns n below sn lt) (e : ∀ q d, below q d ↔ below' q d) : Mid L step ns n below' sn lt := by
  have : below = below' := by funext q d; exact propext (e q d)
  rw [← this]; exact m
theorem Mid.group (h : Lay L step goal ns n seen gs) (aL : L.Pairwise (· < ·)) {below : List Nat → Nat → Prop} {w : List Nat} {S : List α} (hg : (w, S) ∈ gs)
    (up : ∀ q d S', (q, S') ∈ gs → d ∈ L → q < w → below q d) (dn : ∀ q d, below q d → q < w ∧ q.length = n) :
    ∀ (done rest : List Nat), L = done ++ rest → ∀ {sn : List α} {lt : Grp α}, Mid L step ns n (fun q d => below q d ∨ (q = w ∧ d ∈ done)) sn lt →
      Mid L step ns n (fun q d => below q d ∨ (q = w ∧ d ∈ L)) (rest.foldl (fun q c => pairS step q (w, S) c) (sn, lt)).1 (rest.foldl (fun q c => pairS step q (w, S) c) (sn, lt)).2
  | done, [], e, sn, lt, m => by
    rw [List.append_nil] at e
    rw [e]
    exact e ▸ m
  | done, c :: rest, e, sn, lt, m => by
    have lw : w.length = n := h.len _ hg
    have hc : c ∈ L := by rw [e]; simp
    have hd : ∀ d ∈ done, d < c := fun d md => by
      rw [e] at aL
      exact (List.pairwise_append.mp aL).2.2 d md c List.mem_cons_self
    have st := Mid.pair h m hg hc (fun q d S' hq hd' sl => ?_) (fun q d hb => ?_)
    · rw [List.foldl_cons]
      refine Mid.group h aL hg up dn (done ++ [c]) rest (by rw [e]; simp) (st.imp fun q d => ?_)
      simp only [List.mem_append, List.mem_singleton]
      constructor
      · rintro ((z | ⟨z1, z2⟩) | ⟨z1, z2⟩)
        · exact .inl z
        · exact .inr ⟨z1, .inl z2⟩
        · exact .inr ⟨z1, .inr z2⟩
      · rintro (z | ⟨z1, z2 | z2⟩)
        · exact .inl (.inl z)
        · exact .inl (.inr ⟨z1, z2⟩)
        · exact .inr ⟨z1, z2⟩
    · rcases slt_snoc.mp sl with z | ⟨z1, z2⟩
      · have lq := h.len _ hq
        rcases z with z | ⟨_, z⟩
        · have lq : q.length = n := lq
          omega
        · exact .inl (up q d S' hq hd' z)
      · refine .inr ⟨z1, ?_⟩
        rw [e] at hd'
        rcases List.mem_append.mp hd' with k | k
        · exact k
        · rcases List.mem_cons.mp k with k | k
          · omega
          · rw [e] at aL
            have := (List.pairwise_cons.mp (List.pairwise_append.mp aL).2.1).1 d k
            omega
    · rcases hb with hb | ⟨rfl, hb⟩
      · obtain ⟨z1, z2⟩ := dn q d hb
        exact slt_snoc.mpr (.inl (.inr ⟨by omega, z1⟩))
      · exact slt_snoc.mpr (.inr ⟨rfl, hd d hb⟩)
theorem Mid.groups (h : Lay L step goal ns n seen gs) (aL : L.Pairwise (· < ·)) : ∀ (done rest : Grp α), gs = done ++ rest → ∀ {sn : List α} {lt : Grp α}, Mid L step ns n (fun q d => (∃ S, (q, S) ∈ done) ∧ d ∈ L) sn lt →
      Mid L step ns n (fun q d => (∃ S, (q, S) ∈ gs) ∧ d ∈ L) (rest.foldl (groupS step L) (sn, lt)).1 (rest.foldl (groupS step L) (sn, lt)).2
  | done, [], e, sn, lt, m => by
    rw [List.append_nil] at e
    rw [e]
    exact m
  | done, (w, S) :: rest, e, sn, lt, m => by
    have hg : (w, S) ∈ gs := by rw [e]; simp
    have pa := h.asc
    rw [e] at pa
    have st := Mid.group h aL (below := fun q d => (∃ S, (q, S) ∈ done) ∧ d ∈ L) (w := w) (S := S) hg (fun q d S' hq hd' sl => ?_) (fun q d hb => ?_) [] L rfl (sn := sn) (lt := lt) (m.imp fun q d => by simp)
    · rw [List.foldl_cons]
      refine Mid.groups h aL (done ++ [(w, S)]) rest (by rw [e]; simp) (st.imp fun q d => ?_)
      constructor
      · rintro (⟨⟨T, hT⟩, z⟩ | ⟨rfl, z⟩)
        · exact ⟨⟨T, List.mem_append_left _ hT⟩, z⟩
        · exact ⟨⟨S, by simp⟩, z⟩
      · rintro ⟨⟨T, hT⟩, z⟩
        rcases List.mem_append.mp hT with k | k
        · exact .inl ⟨⟨T, k⟩, z⟩
        · rw [List.mem_singleton] at k
          cases k
          exact .inr ⟨rfl, z⟩
    · refine ⟨⟨S', ?_⟩, hd'⟩
      rw [e] at hq
      rcases List.mem_append.mp hq with k | k
      · exact k
      · rcases List.mem_cons.mp k with k | k
        · cases k
          exact absurd sl (List.lt_irrefl _)
        · have := (List.pairwise_cons.mp (List.pairwise_append.mp pa).2.1).1 _ k
          exact absurd (List.lt_trans this sl) (List.lt_irrefl _)
    · obtain ⟨⟨T, hT⟩, _⟩ := hb
      exact ⟨(List.pairwise_append.mp pa).2.2 _ hT _ List.mem_cons_self, h.len _ (by rw [e]; exact List.mem_append_left _ hT)⟩
theorem Lay.next (h : Lay L step goal ns n seen gs) (aL : L.Pairwise (· < ·)) (none_ : ∀ g ∈ gs, ∀ v ∈ g.2, goal v = false) : Lay L step goal ns (n + 1) (layer step L seen gs).1 (layer step L seen gs).2 := by
  have m0 : Mid L step ns n (fun q d => (∃ S, (q, S) ∈ ([] : Grp α)) ∧ d ∈ L) seen [] := ⟨h.nd, fun v => by
    rw [h.seen]
    constructor
    · exact .inl
    · rintro (z | ⟨_, _, _, ⟨⟨_, z⟩, _⟩, _⟩)
      · exact z
      · simp at z, .nil, fun g hg => by simp at hg, fun g hg => by simp at hg, fun q d v hb => by
    obtain ⟨⟨_, z⟩, _⟩ := hb
    simp at z⟩
  have m := Mid.groups h aL [] gs rfl m0
  refine ⟨m.nd, fun v => ?_, m.asc, fun g hg => ?_, m.ok, fun w v lw hv => ?_, fun w v lw hv => ?_⟩
  · refine (m.seen v).trans ?_
    constructor
    · rintro (⟨w, o, l, z⟩ | ⟨w, c, u, _, hc, lw, lu, mu⟩)
      · exact ⟨w, o, by omega, z⟩
      · exact ⟨w ++ [c], ov_snoc.mpr ⟨lu.1, hc⟩, by simp; omega, rs_snoc.mpr ⟨u, lu.2.1, mu⟩⟩
    · rintro ⟨w, o, l, z⟩
      by_cases lw : w.length ≤ n
      · exact .inl ⟨w, o, lw, z⟩
      · obtain ⟨p, d, rfl⟩ : ∃ p d, w = p ++ [d] := by
          rcases List.eq_nil_or_concat w with e | ⟨p, d, e⟩
          · rw [e] at lw; simp at lw
          · exact ⟨p, d, by simpa using e⟩
        simp at l lw
        obtain ⟨op, od⟩ := ov_snoc.mp o
        obtain ⟨y, my, my2⟩ := rs_snoc.mp z
        obtain ⟨q, hq, e⟩ := lst_some op my
        have lq : q.length ≤ n := by
          rcases e with e | e
          · rw [e]; omega
          · rcases e with e | ⟨e, _⟩ <;> omega
        by_cases lt' : q.length < n
        · exact .inl ⟨q ++ [d], ov_snoc.mpr ⟨hq.1, od⟩, by simp; omega, rs_snoc.mpr ⟨y, hq.2.1, my2⟩⟩
        · obtain ⟨S', hS, _⟩ := h.all q y (by omega) hq
          exact .inr ⟨q, d, y, ⟨⟨S', hS⟩, od⟩, od, by omega, hq, my2⟩
  · obtain ⟨w, c, e, lw, _⟩ := m.len g hg
    rw [e]
    simp [lw]
  · obtain ⟨p, d, rfl⟩ : ∃ p d, w = p ++ [d] := by
      rcases List.eq_nil_or_concat w with e | ⟨p, d, e⟩
      · rw [e] at lw; simp at lw
      · exact ⟨p, d, by simpa using e⟩
    have lp : p.length = n := by simpa using lw
    obtain ⟨u, lu, _, hd⟩ := lst_snoc hv
    obtain ⟨S', hS, _⟩ := h.all p u lp lu
    exact m.all p d v ⟨⟨S', hS⟩, hd⟩ lp hv
  · by_cases lt' : w.length < n
    · exact h.no w v lt' hv
    · obtain ⟨S', hS, mv⟩ := h.all w v (by omega) hv
      exact none_ _ hS v mv
theorem lst_take {w : List Nat} {v : α} (h : Lst L step ns w v) : ∀ k, k ≤ w.length → ∃ x, Lst L step ns (w.take k) x := by
  have main : ∀ (j : Nat) (w : List Nat) (v : α), Lst L step ns w v → ∀ k, k + j = w.length → ∃ x, Lst L step ns (w.take k) x := fun j => by
    induction j with
    | zero => exact fun w v h k e => ⟨v, by rw [List.take_of_length_le (by omega)]; exact h⟩
    | succ j ih =>
      intro w v h k e
      obtain ⟨p, d, rfl⟩ : ∃ p d, w = p ++ [d] := by
        rcases List.eq_nil_or_concat w with z | ⟨p, d, z⟩
        · rw [z] at e; simp at e
        · exact ⟨p, d, by simpa using z⟩
      obtain ⟨u, lu, _⟩ := lst_snoc h
      have e : k + (j + 1) = p.length + 1 := by simpa using e
      obtain ⟨x, hx⟩ := ih p u lu k (by omega)
      exact ⟨x, by rw [List.take_append_of_le_length (by omega)]; exact hx⟩
  exact fun k hk => main (w.length - k) w v h k (by omega)
/-- acceptance -/
abbrev Acc_ (step : α → Nat → List α) (goal : α → Bool) (ns : List α) (w : List Nat) : Prop := ∃ v ∈ rs step ns w, goal v = true
theorem Lay.stop (h : Lay L step goal ns n seen []) : First L (Acc_ step goal ns) none := fun w o ⟨v, mv, hv⟩ => by
  obtain ⟨u, hu, _⟩ := lst_some o mv
  by_cases l : u.length < n
  · rw [h.no u v l hu] at hv
    cases hv
  · obtain ⟨x, hx⟩ := lst_take hu n (by omega)
    obtain ⟨S, hS, _⟩ := h.all _ x (by rw [List.length_take]; omega) hx
    simp at hS
theorem Lay.hit (h : Lay L step goal ns n seen gs) {pre post : Grp α} {w : List Nat} {S : List α} (e : gs = pre ++ (w, S) :: post) (hp : ∀ g ∈ pre, ∀ v ∈ g.2, goal v = false) (hv : ∃ v ∈ S, goal v = true) : First L (Acc_ step goal ns) (some w) := by
  have hg : (w, S) ∈ gs := by rw [e]; simp
  obtain ⟨v, mv, gv⟩ := hv
  have lv := h.ok _ hg v mv
  have lw : w.length = n := h.len _ hg
  refine ⟨lv.1, ⟨v, lv.2.1, gv⟩, fun u ou ⟨x, mx, gx⟩ su => ?_⟩
  obtain ⟨q, hq, eq⟩ := lst_some ou mx
  have sq : Slt q w := eq.elim (fun z => z ▸ su) fun z => slt_trans z su
  by_cases l : q.length < n
  · rw [h.no q x l hq] at gx
    cases gx
  · have lq : q.length = n := by rcases sq with z | ⟨z, _⟩ <;> omega
    obtain ⟨S', hS, mx'⟩ := h.all q x lq hq
    have lt' : q < w := by
      rcases sq with z | ⟨_, z⟩
      · omega
      · exact z
    have pa := h.asc
    rw [e] at hS pa
    rcases List.mem_append.mp hS with k | k
    · rw [hp _ k x mx'] at gx
      cases gx
    · rcases List.mem_cons.mp k with k | k
      · cases k
        exact List.lt_irrefl _ lt'
      · have := (List.pairwise_cons.mp (List.pairwise_append.mp pa).2.1).1 _ k
        exact absurd (List.lt_trans this lt') (List.lt_irrefl _)
theorem Lay.start : Lay L step goal ns 0 (addN [] ns).1 [([], (addN [] ns).1)] := by
  have mem : ∀ v, v ∈ (addN [] ns).1 ↔ v ∈ ns := fun v => by rw [(addN_mem v ns []).1]; simp
  refine ⟨addN_nd _ _ .nil, fun v => ?_, by simp, fun g hg => ?_, fun g hg v hv => ?_, fun w v lw hv => ?_, fun w v lw => by omega⟩
  · rw [mem]
    constructor
    · exact fun z => ⟨[], fun _ m => (by simp at m), by simp, z⟩
    · rintro ⟨w, _, l, z⟩
      have : w = [] := List.length_eq_zero_iff.mp (by omega)
      rw [this] at z
      exact z
  · rw [List.mem_singleton] at hg
    rw [hg]
    rfl
  · rw [List.mem_singleton] at hg
    subst hg
    exact ⟨fun _ m => (by simp at m), (mem v).mp hv, fun u _ su => (by
      rcases su with z | ⟨_, z⟩
      · exact absurd z (Nat.not_lt_zero _)
      · exact absurd z (List.not_lt_nil u))⟩
  · have e : w = [] := List.length_eq_zero_iff.mp lw
    subst e
    exact ⟨_, by simp, (mem v).mpr hv.2.1⟩
end
end Ft
/-! FT2: the program's first text: its data, its promise. -/
namespace DL
open PySem PySem.Spec L2
open Ft (First Acc_ Lay addN pairS groupS layer Grp)
/-- a node: a flat tuple of ints and texts -/
abbrev Nd := List L2.Key
instance : DecidableEq Nd := inferInstanceAs (DecidableEq (List (Int ⊕ Str)))
instance nd_mem (v : Nd) (l : List Nd) : Decidable (v ∈ l) := decidable_of_iff (∃ x ∈ l, x = v) ⟨fun ⟨x, m, e⟩ => e ▸ m, fun m => ⟨v, m, rfl⟩⟩
def ndD (v : Nd) : PyData := .tuple (v.map kD)
def nT (v : Nd) : T := .dat (ndD v)
def sD (sn : List Nd) : List (Nd × T) := sn.map fun v => (v, T.dat (.bool true))
theorem sD_val (v : Nd) : ∀ sn : List Nd, valT (sD sn) v = if v ∈ sn then some (T.dat (.bool true)) else none
  | [] => rfl
  | u :: sn => by
    show valT ((u, T.dat (.bool true)) :: sD sn) v = _
    by_cases e : u = v
    · rw [valT_pos e]
      simp [e]
    · rw [valT_neg e, sD_val v sn]
      have : (v ∈ u :: sn) ↔ v ∈ sn := by
        rw [List.mem_cons]
        exact ⟨fun z => z.elim (fun z => absurd z.symm e) id, .inr⟩
      simp only [this]
theorem sD_new {sn : List Nd} {v : Nd} (h : v ∉ sn) : setT (sD sn) v (T.dat (.bool true)) = sD (sn ++ [v]) := by
  unfold setT
  rw [valT_any, sD_val, if_neg h]
  simp [sD]
theorem sD_old {sn : List Nd} {v : Nd} (h : v ∈ sn) : setT (sD sn) v (T.dat (.bool true)) = sD sn := by
  unfold setT
  rw [valT_any, sD_val, if_pos h]
  simp only [Option.isSome_some, if_true]
  unfold sD
  rw [List.map_map]
  apply List.map_congr_left
  intro u _
  show (if u = v then (u, T.dat (.bool true)) else (u, T.dat (.bool true))) = _
  split <;> rfl
theorem sD_len (sn : List Nd) : (sD sn).length = sn.length := by simp [sD]
theorem dLk_nd {n : Nat} {sn : List Nd} {v : Nd} {μ : Mu} (h : μ[n]? = some (.dt (sD sn))) : dLk μ (.loc n) (nT v) = some (valT (sD sn) v) := by
  unfold dLk nT ndD
  simp only [h, nm_dat]
  rw [toKeys_kD]
  rfl
theorem oDNotIn_nd {n : Nat} {sn : List Nd} {v : Nd} {μ : Mu} {P : KT} (h : μ[n]? = some (.dt (sD sn))) (hp : P (.dat (.bool (decide (v ∉ sn)))) μ) : oDNotIn (nT v) (.loc n) μ P := by
  unfold oDNotIn
  rw [dLk_nd h, sD_val]
  by_cases c : v ∈ sn
  · simpa [c] using hp
  · simpa [c] using hp
theorem oDSet_nd {n : Nat} {sn : List Nd} {v : Nd} {μ : Mu} {P : Mu → Prop} (h : μ[n]? = some (.dt (sD sn))) (hl : sn.length < 1000000) (hp : P (μ.set n (.dt (setT (sD sn) v (T.dat (.bool true)))))) : oDSet (.loc n) (nT v) (T.dat (.bool true)) μ P := by
  have hs := sizeLine_ge
  unfold oDSet nT ndD
  simp only [h, nm_dat]
  rw [toKeys_kD]
  exact ⟨by rw [sD_len]; omega, hp⟩
/-- stores that agree but at some places -/
def Ag (X : List Nat) (μ μ' : Mu) : Prop := μ.length ≤ μ'.length ∧ ∀ n o, n ∉ X → μ[n]? = some o → μ'[n]? = some o
theorem Ag.refl (X : List Nat) (μ : Mu) : Ag X μ μ := ⟨Nat.le_refl _, fun _ _ _ h => h⟩
theorem Ag.trans {X : List Nat} {μ μ1 μ2 : Mu} (a : Ag X μ μ1) (b : Ag X μ1 μ2) : Ag X μ μ2 := ⟨Nat.le_trans a.1 b.1, fun n o m h => b.2 n o m (a.2 n o m h)⟩
theorem Ag.app (X : List Nat) (μ g : Mu) : Ag X μ (μ ++ g) := ⟨by simp, fun n o _ h => by
  rw [List.getElem?_append_left (List.getElem?_eq_some_iff.mp h).1]
  exact h⟩
theorem Ag.set {X : List Nat} {n : Nat} (m : n ∈ X) (μ : Mu) (o : O) : Ag X μ (μ.set n o) := ⟨by simp, fun k u hk h => by
  rw [List.getElem?_set_ne (fun (e : n = k) => hk (by rw [← e]; exact m))]
  exact h⟩
theorem Ag.mono {X Y : List Nat} {μ μ' : Mu} (a : Ag X μ μ') (s : ∀ n ∈ X, n ∈ Y) : Ag Y μ μ' := ⟨a.1, fun n o m h => a.2 n o (fun z => m (s n z)) h⟩
/-- groups at places from lo to below hi -/
structure GIn (lo hi : Nat) (μ : Mu) (ls : List (Nat × Nat)) (gs : Grp Nd) : Prop where
  len : ls.length = gs.length
  at_ : ∀ (i : Nat) (p : Nat × Nat) (q : List Nat × List Nd), ls[i]? = some p → gs[i]? = some q → lo ≤ p.1 ∧ p.1 < hi ∧ lo ≤ p.2 ∧ p.2 < hi ∧ μ[p.1]? = some (.tup [T.dat (.str (tz q.1)), .loc p.2]) ∧ μ[p.2]? = some (.lst (q.2.map nT))
theorem GIn.kp {lo hi : Nat} {μ μ' : Mu} {ls : List (Nat × Nat)} {gs : Grp Nd} {X : List Nat} (h : GIn lo hi μ ls gs) (a : Ag X μ μ') (hx : ∀ n ∈ X, n < lo ∨ hi ≤ n) : GIn lo hi μ' ls gs := ⟨h.len, fun i p q e1 e2 => by
  obtain ⟨a1, a2, a3, a4, a5, a6⟩ := h.at_ i p q e1 e2
  exact ⟨a1, a2, a3, a4, a.2 _ _ (fun m => by have := hx _ m; omega) a5, a.2 _ _ (fun m => by have := hx _ m; omega) a6⟩⟩
theorem GIn.wide {lo hi lo' hi' : Nat} {μ : Mu} {ls : List (Nat × Nat)} {gs : Grp Nd} (h : GIn lo hi μ ls gs) (h1 : lo' ≤ lo) (h2 : hi ≤ hi') : GIn lo' hi' μ ls gs := ⟨h.len, fun i p q e1 e2 => by
  obtain ⟨a1, a2, a3, a4, a5, a6⟩ := h.at_ i p q e1 e2
  exact ⟨by omega, by omega, by omega, by omega, a5, a6⟩⟩
theorem GIn.snoc {lo hi : Nat} {μ : Mu} {ls : List (Nat × Nat)} {gs : Grp Nd} (h : GIn lo hi μ ls gs) {p : Nat × Nat} {q : List Nat × List Nd} (hp : lo ≤ p.1 ∧ p.1 < hi ∧ lo ≤ p.2 ∧ p.2 < hi ∧ μ[p.1]? = some (.tup [T.dat (.str (tz q.1)), .loc p.2]) ∧ μ[p.2]? = some (.lst (q.2.map nT))) :
    GIn lo hi μ (ls ++ [p]) (gs ++ [q]) := ⟨by simp [h.len], fun i p' q' e1 e2 => by
  by_cases c : i < ls.length
  · rw [List.getElem?_append_left c] at e1
    rw [List.getElem?_append_left (by rw [← h.len]; exact c)] at e2
    exact h.at_ i p' q' e1 e2
  · have hi1 := (List.getElem?_eq_some_iff.mp e1).1
    have : i = ls.length := by simp at hi1; omega
    subst this
    rw [List.getElem?_append_right (Nat.le_refl _), Nat.sub_self] at e1
    rw [h.len, List.getElem?_append_right (Nat.le_refl _), Nat.sub_self] at e2
    cases e1
    cases e2
    exact hp⟩
def grpD (gs : Grp Nd) : List PyData := gs.map fun g => .tuple [.str (tz g.1), .list (g.2.map ndD)]
theorem toDs_nT (k : Nat) (μ : Mu) (S : List Nd) : toDs k μ (S.map nT) = some (S.map ndD) := by
  have := toDs_dats k μ (S.map ndD)
  rw [List.map_map] at this
  exact this
theorem grp_toD {lo hi : Nat} {μ : Mu} : ∀ {ls : List (Nat × Nat)} {gs : Grp Nd}, GIn lo hi μ ls gs → toDs 7 μ (ls.map fun p => .loc p.1) = some (grpD gs)
  | [], [], _ => by simp [toDs, grpD]
  | [], _ :: _, h => by have := h.len; simp at this
  | _ :: _, [], h => by have := h.len; simp at this
  | p :: ls, q :: gs, h => by
    have ih := grp_toD (ls := ls) (gs := gs) ⟨by have := h.len; simpa using this, fun i p q e1 e2 => h.at_ (i + 1) p q (by simpa using e1) (by simpa using e2)⟩
    obtain ⟨_, _, _, _, a5, a6⟩ := h.at_ 0 p q rfl rfl
    have h0 : toD 7 μ (.loc p.1) = some (.tuple [.str (tz q.1), .list (q.2.map ndD)]) := by
      refine toD_tup a5 ?_
      have := toD_lst (k := 5) a6 (toDs_nT 5 μ q.2)
      simp only [toDs, toD_dat, this]
    rw [List.map_cons, toDs, h0, ih]
    rfl
/-- nodes that can be told and compared -/
def KGd (v : Nd) : Prop := v.length ≤ 10 ∧ ∀ k ∈ v, (∃ i : Int, k = .inl i ∧ i.natAbs < 10 ^ 60) ∨ ∃ l : List Nat, k = .inr (tz l) ∧ Sgn l ∧ l.length ≤ 100
theorem KGd.gd {v : Nd} (h : KGd v) : Gd 1 2000 (ndD v) := by
  have := GdL.all (k := 0) (b := 100) (f := kD) (l := v) (n := 10) (fun k m => by
    rcases h.2 k m with ⟨i, rfl, hi⟩ | ⟨l, rfl, hs, hl⟩
    · exact Gd.int hi 0 100
    · exact Gd.str hs hl) h.1
  exact (Gd.tup this).mono (by omega) (by omega)
theorem nds_shp {S : List Nd} (h : ∀ v ∈ S, KGd v) : SeqAt.shaped (.list (S.map ndD)) = true :=
  (Gd.lst (GdL.all (k := 1) (b := 2000) (f := ndD) (l := S) (n := S.length) (fun v m => (h v m).gd) (Nat.le_refl _))).shp
theorem grp_shp {gs : Grp Nd} (hS : ∀ g ∈ gs, Sgn g.1) (h : ∀ g ∈ gs, ∀ v ∈ g.2, KGd v) : SeqAt.shaped (.list (grpD gs)) = true := by
  have one : ∀ g ∈ gs, ∃ B, Gd 3 B (.tuple [.str (tz g.1), .list (g.2.map ndD)]) := fun g m => by
    have g1 : Gd 2 g.1.length (.str (tz g.1)) := (Gd.str (hS g m) (Nat.le_refl _)).mono (by omega) (Nat.le_refl _)
    have g2 : Gd 2 (g.2.length * (2000 + 1)) (.list (g.2.map ndD)) := Gd.lst (GdL.all (k := 1) (b := 2000) (f := ndD) (l := g.2) (n := g.2.length) (fun v mv => (h g m v mv).gd) (Nat.le_refl _))
    exact ⟨_, Gd.tup (GdL.cons g1 (GdL.cons g2 (GdL.nil 2 0) (Nat.le_refl _)) (Nat.le_refl _))⟩
  have all : ∃ B, ∀ g ∈ gs, Gd 3 B (.tuple [.str (tz g.1), .list (g.2.map ndD)]) := by
    clear hS h
    induction gs with
    | nil => exact ⟨0, fun g m => by simp at m⟩
    | cons a r ih =>
      obtain ⟨B, hB⟩ := ih fun g m => one g (List.mem_cons_of_mem _ m)
      obtain ⟨C, hC⟩ := one a List.mem_cons_self
      refine ⟨B + C, fun g m => ?_⟩
      rcases List.mem_cons.mp m with e | e
      · rw [e]; exact hC.mono (Nat.le_refl _) (by omega)
      · exact (hB g e).mono (Nat.le_refl _) (by omega)
  obtain ⟨B, hB⟩ := all
  exact (Gd.lst (GdL.all (k := 3) (b := B) (f := fun g : List Nat × List Nd => PyData.tuple [.str (tz g.1), .list (g.2.map ndD)]) (l := gs) (n := gs.length) hB (Nat.le_refl _))).shp
/-! ### the promise -/
def resD : Option (List Nat) → PyData
  | none => .none
  | some w => .str (tz w)
def w_first_text_1 : WpS := (wRet (wC .none))
def w_first_text_2 : WpS := (wAsg (wVar 9) (wgName 6))
def w_first_text_3 : WpS := (wIfS (wB (wOp oNeA (wVar 11) (wLst wNil))) (wDrop (wBM "list" mAppend (wVar 9) (wCons (wTup (wCons (wOp oAdd (wVar 7) (wVar 10)) (wCons (wVar 11) wNil))) wNil))) wNext)
def w_first_text_4 : WpS := (wDrop (wBM "list" mAppend (wVar 11) (wCons (wVar 12) wNil)))
def w_first_text_5 : WpS := (wIfS (wB (wOp oDNotIn (wVar 12) (wVar 4))) (wSeq (wAsg (wC (.bool true)) (wgSub (wVar 4) (wVar 12) oDSet))
    w_first_text_4) wNext)
def w_first_text_6 (pn : PN) : WpS := (wFor (wiA (wCallV pn 8 2 1 (wCons (wVar 5) (wCons (wVar 10) wNil)))) (wgName 12) w_first_text_5)
def w_first_text_7 (pn : PN) : WpS := (wSeq (wFor (wiA (wVar 8)) (wgName 5) (w_first_text_6 pn))
    w_first_text_3)
def w_first_text_8 (pn : PN) : WpS := (wSeq (wAsg (wLst wNil) (wgName 11))
    (w_first_text_7 pn))
def w_first_text_9 (pn : PN) : WpS := (wFor (wiA (wVar 2)) (wgName 10) (w_first_text_8 pn))
def w_first_text_10 (pn : PN) : WpS := (wSeq (wFor (wiA (wVar 6)) (wgTup 2 (wgCons (wgName 7) (wgCons (wgName 8) wgNil))) (w_first_text_9 pn))
    w_first_text_2)
def w_first_text_11 (pn : PN) : WpS := (wSeq (wAsg (wLst wNil) (wgName 9))
    (w_first_text_10 pn))
def w_first_text_12 (pn : PN) : WpS := (wIfS (wTru (wCB cAny (wCons (wLc (wiA (wVar 8)) (wgName 5) wYes (wCallV pn 8 1 3 (wCons (wVar 5) wNil)) [5]) wNil))) (wRet (wVar 7)) wNext)
def w_first_text_13 (pn : PN) : WpS := (wSeq (wFor (wiA (wVar 6)) (wgTup 2 (wgCons (wgName 7) (wgCons (wgName 8) wgNil))) (w_first_text_12 pn))
    (w_first_text_11 pn))
def w_first_text_14 (pn : PN) : WpS := (wSeq (wWhile (wB (wOp oNeA (wVar 6) (wLst wNil))) (w_first_text_13 pn))
    w_first_text_1)
def w_first_text_15 (pn : PN) : WpS := (wSeq (wAsg (wLst (wCons (wTup (wCons (wC (.str "")) (wCons (wCB cListD (wCons (wVar 4) wNil)) wNil))) wNil)) (wgName 6))
    (w_first_text_14 pn))
def w_first_text (pn : PN) : WpS := (wSeq (wAsg (wDc (wiA (wVar 0)) (wgName 5) wYes (wVar 5) (wC (.bool true)) [5]) (wgName 4))
    (w_first_text_15 pn))
/-- what is asked of the functions that are handed on -/
structure Sem2 (L : List Nat) (U : List Nd) (step : Nd → Nat → List Nd) (goal : Nd → Bool) (d1 : DSp) (cs1 : List T) (d2 : DSp) (cs2 : List T) : Prop where
  asc : L.Pairwise (· < ·)
  low : Sgn L
  ll : L.length ≤ 1000
  cl : ∀ v ∈ U, ∀ c ∈ L, ∀ x ∈ step v c, x ∈ U
  un : U.length ≤ 100000
  kg : ∀ v ∈ U, KGd v
  sl : ∀ v ∈ U, ∀ c ∈ L, (step v c).length ≤ 100000
  st : ∀ v ∈ U, ∀ c ∈ L, ∀ (μ : Mu) (P : KT) (PX : KX), P (.loc μ.length) (μ ++ [.lst ((step v c).map nT)]) → callD d1 ([nT v, T.dat (.str (tz [c]))] ++ cs1) μ P PX
  go : ∀ v ∈ U, ∀ (μ : Mu) (P : KT) (PX : KX), P (.dat (.bool (goal v))) μ → callD d2 ([nT v] ++ cs2) μ P PX
def d_first_text (pn : PN) : DSp := fun ts μ P _ => ∃ (ns : List Nd) (L : List Nat) (U : List Nd) (step : Nd → Nat → List Nd) (goal : Nd → Bool) (f1 f2 : Addr) (d1 d2 : DSp) (cs1 cs2 : List T),
  ts = [T.dat (.list (ns.map ndD)), .fn f1 (pn 8 2 f1 d1 cs1), T.dat (.str (tz L)), .fn f2 (pn 8 1 f2 d2 cs2)] ∧ μ = [] ∧ (∀ v ∈ ns, v ∈ U) ∧ ns.length ≤ 100000 ∧ Sem2 L U step goal d1 cs1 d2 cs2 ∧ ∀ r, First L (Acc_ step goal ns) r → P (.dat (resD r)) []
end DL
/-! FT3: the program's first text: the walk. -/
namespace DL
open PySem PySem.Spec L2
open Ft (First Acc_ Lay addN pairS groupS layer Grp addN_app addN_cons addN_mem addN_nd)
theorem addN_one {sn : List Nd} {u : Nd} : addN sn [u] = if u ∈ sn then (sn, []) else (sn ++ [u], [u]) := by
  rw [addN_cons]
  by_cases h : u ∈ sn
  · rw [if_pos h, if_pos h]; rfl
  · rw [if_neg h, if_neg h]; rfl
theorem addN_len : ∀ (xs sn : List Nd), (addN sn xs).1.length = sn.length + (addN sn xs).2.length
  | [], sn => by simp [addN]
  | x :: xs, sn => by
    rw [addN_cons]
    by_cases h : x ∈ sn
    · rw [if_pos h]; exact addN_len xs sn
    · rw [if_neg h]
      have := addN_len xs (sn ++ [x])
      simp at this ⊢
      omega
theorem nd_subN {a b : List Nd} (h : a.Nodup) (s : ∀ x ∈ a, x ∈ b) : a.length ≤ b.length := Tb.nd_sub h s
theorem not_two {n a b : Nat} (h1 : n ≠ a) (h2 : n ≠ b) : n ∉ [a, b] := fun m => by
  rcases List.mem_cons.mp m with e | e
  · exact h1 e
  · exact h2 (List.mem_singleton.mp e)
section
variable {L : List Nat} {U ns : List Nd} {step : Nd → Nat → List Nd} {goal : Nd → Bool} {f1 f2 : Addr} {d1 d2 : DSp} {cs1 cs2 : List T} {pn : PN} {t0 : T} {a5 a6 a7 a8 a9 a10 a11 a12 : Option T}
theorem goal_loop (hS : Sem2 L U step goal d1 cs1 d2 cs2) {v : Nd} {c x : Nat} (hv : v ∈ U) (hc : c ∈ L) {μ : Mu} {sn fr : List Nd} (h0 : μ[0]? = some (.dt (sD sn))) (hx : μ[x]? = some (.lst (fr.map nT))) (x0 : x ≠ 0) (nd : sn.Nodup) (sub : ∀ u ∈ sn, u ∈ U) (lf : fr.length ≤ sn.length) {D : DE}
    (hD : ∀ a12' μ', Ag [0, x] μ μ' → μ'[0]? = some (.dt (sD (addN sn (step v c)).1)) → μ'[x]? = some (.lst ((fr ++ (addN sn (step v c)).2).map nT)) →
      D.nx [some t0, some (.fn f1 (pn 8 2 f1 d1 cs1)), some (T.dat (.str (tz L))), some (.fn f2 (pn 8 1 f2 d2 cs2)), some (.loc 0), some (nT v), a6, a7, a8, a9, some (T.dat (.str (tz [c]))), some (.loc x), a12'] μ') :
    w_first_text_6 pn D [some t0, some (.fn f1 (pn 8 2 f1 d1 cs1)), some (T.dat (.str (tz L))), some (.fn f2 (pn 8 1 f2 d2 cs2)), some (.loc 0), some (nT v), a6, a7, a8, a9, some (T.dat (.str (tz [c]))), some (.loc x), a12] μ := by
  unfold w_first_text_6
  rw [wFor_eq]
  obtain ⟨xs, hxs⟩ : ∃ xs, xs = step v c := ⟨_, rfl⟩
  obtain ⟨μ1, hμ⟩ : ∃ μ1, μ1 = μ ++ [O.lst (xs.map nT)] := ⟨_, rfl⟩
  have hy : μ1[μ.length]? = some (.lst (xs.map nT)) := by rw [hμ]; simp
  have l0 : 0 < μ.length := (List.getElem?_eq_some_iff.mp h0).1
  have lx : x < μ.length := (List.getElem?_eq_some_iff.mp hx).1
  have ag1 : Ag [0, x] μ μ1 := by rw [hμ]; exact Ag.app _ _ _
  have up : ∀ {n : Nat} {o : O}, μ[n]? = some o → μ1[n]? = some o := fun {n o} h => by
    rw [hμ, List.getElem?_append_left (List.getElem?_eq_some_iff.mp h).1]
    exact h
  refine wiA_L (t := .loc μ.length) (ts := xs.map nT) (μ1 := μ1) (fun Q q => ?_) (rdL_live hy) ?_
  · refine ⟨f1, d1, cs1, rfl, ?_⟩
    refine hS.st v hv c hc μ Q _ ?_
    rw [hxs] at hμ
    rw [hμ] at q
    exact q
  obtain ⟨Inv, hI⟩ : ∃ Inv : Nat → En → Mu → Prop, Inv = fun l env' μ' => ∃ a12', env' = [some t0, some (.fn f1 (pn 8 2 f1 d1 cs1)), some (T.dat (.str (tz L))), some (.fn f2 (pn 8 1 f2 d2 cs2)), some (.loc 0), some (nT v), a6, a7, a8, a9, some (T.dat (.str (tz [c]))), some (.loc x), a12'] ∧
    Ag [0, x] μ1 μ' ∧ μ'[0]? = some (.dt (sD (addN sn (xs.take l)).1)) ∧ μ'[x]? = some (.lst ((fr ++ (addN sn (xs.take l)).2).map nT)) := ⟨_, rfl⟩
  have lxs : xs.length ≤ 100000 := by rw [hxs]; exact hS.sl v hv c hc
  refine ⟨Inv, by rw [hI]; exact ⟨a12, rfl, Ag.refl _ _, up h0, by simp [addN]; exact up hx⟩, fun l env' μ' _ h => ?_, fun l env' μ' hl h => ?_, fun env' μ' h => ?_⟩
  · rw [hI] at h
    obtain ⟨_, _, ag, _, _⟩ := h
    exact rdL_live (ag.2 _ _ (not_two (by omega) (by omega)) hy)
  · have hl : l < xs.length := by
      have : l < (xs.map nT).length := hl
      simpa using this
    rw [hI] at h
    obtain ⟨a12', rfl, ag, g0, gx⟩ := h
    refine ⟨nT xs[l], by simp [hl], ?_⟩
    obtain ⟨u, hu⟩ : ∃ u, u = xs[l] := ⟨_, rfl⟩
    obtain ⟨p, hp⟩ : ∃ p, p = addN sn (xs.take l) := ⟨_, rfl⟩
    have et : addN sn (xs.take (l + 1)) = ((addN p.1 [u]).1, p.2 ++ (addN p.1 [u]).2) := by
      rw [List.take_succ_eq_append_getElem hl, addN_app, ← hp, ← hu]
    rw [← hp] at g0 gx
    rw [← hu]
    have memp : ∀ z ∈ p.1, z ∈ U := fun z m => by
      rw [hp] at m
      rcases ((addN_mem z (xs.take l) sn).1).mp m with k | k
      · exact sub z k
      · exact hS.cl v hv c hc z (by rw [← hxs]; exact List.mem_of_mem_take k)
    have lp1 : p.1.length ≤ 100000 := Nat.le_trans (nd_subN (by rw [hp]; exact addN_nd _ _ nd) memp) hS.un
    have lp2 : p.1.length = sn.length + p.2.length := by rw [hp]; exact addN_len _ _
    show w_first_text_5 _ _ _
    simp only [wgName, List.set_cons_succ, List.set_cons_zero]
    have next : ∀ (D' : DE), D'.nx = Inv (l + 1) → w_first_text_5 D' [some t0, some (.fn f1 (pn 8 2 f1 d1 cs1)), some (T.dat (.str (tz L))), some (.fn f2 (pn 8 1 f2 d2 cs2)), some (.loc 0), some (nT v), a6, a7, a8, a9, some (T.dat (.str (tz [c]))), some (.loc x), some (nT u)] μ' := fun D' hD' => by
      simp only [w_first_text_5, wIfS, wB, wOp, wVar, List.getElem?_cons_zero, List.getElem?_cons_succ]
      refine oDNotIn_nd g0 ?_
      by_cases m : u ∈ p.1
      · have e0 : decide (u ∉ p.1) = false := by simp [m]
        simp only [e0, asB, nm, Bool.false_eq_true, if_false, wNext]
        rw [hD', hI]
        refine ⟨_, rfl, ag, ?_, ?_⟩
        · rw [et, addN_one, if_pos m]; exact g0
        · rw [et, addN_one, if_pos m, List.append_nil]; exact gx
      · have e0 : decide (u ∉ p.1) = true := by simp [m]
        simp only [e0, asB, nm, if_true, wSeq, wAsg, wC, wgSub, wVar, List.getElem?_cons_zero, List.getElem?_cons_succ]
        refine oDSet_nd g0 (by omega) ?_
        rw [sD_new m]
        have l0' : 0 < μ'.length := (List.getElem?_eq_some_iff.mp g0).1
        simp only [w_first_text_4, wDrop, wBM, wVar, wCons, wNil, List.getElem?_cons_zero, List.getElem?_cons_succ]
        have gx2 : (μ'.set 0 (.dt (sD (p.1 ++ [u]))))[x]? = some (.lst ((fr ++ p.2).map nT)) := by rw [List.getElem?_set_ne (Ne.symm x0)]; exact gx
        refine ⟨tyT_live gx2, mAppend_live gx2 (by simp; omega) ?_⟩
        rw [hD', hI]
        refine ⟨_, rfl, ag.trans ((Ag.set (by simp) _ _).trans (Ag.set (by simp) _ _)), ?_, ?_⟩
        · rw [et, addN_one, if_neg m, List.getElem?_set_ne x0, List.getElem?_set_self l0']
        · rw [et, addN_one, if_neg m, List.getElem?_set_self (by rw [List.length_set]; exact (List.getElem?_eq_some_iff.mp gx).1), ← List.append_assoc]
          simp
    exact next _ rfl
  · rw [hI] at h
    have e : (itL (.loc μ.length) (xs.map nT)).n = xs.length := by simp [itL]
    rw [e, List.take_length] at h
    obtain ⟨a12', rfl, ag, g0, gx⟩ := h
    rw [hxs] at g0 gx
    exact hD a12' μ' (ag1.trans ag) g0 gx
/-- for node in some -/
theorem node_loop (hS : Sem2 L U step goal d1 cs1 d2 cs2) {S : List Nd} {c x q : Nat} (hv : ∀ v ∈ S, v ∈ U) (lS : S.length ≤ 100000) (hc : c ∈ L) {μ : Mu} {sn : List Nd} (h0 : μ[0]? = some (.dt (sD sn))) (hx : μ[x]? = some (.lst [])) (x0 : x ≠ 0) (hq : μ[q]? = some (.lst (S.map nT))) (q0 : q ≠ 0) (qx : q ≠ x) (nd : sn.Nodup) (sub : ∀ u ∈ sn, u ∈ U) {D : DE}
    (hD : ∀ a5' a12' μ', Ag [0, x] μ μ' → μ'[0]? = some (.dt (sD (addN sn (S.flatMap fun v => step v c)).1)) → μ'[x]? = some (.lst ((addN sn (S.flatMap fun v => step v c)).2.map nT)) →
      D.nx [some t0, some (.fn f1 (pn 8 2 f1 d1 cs1)), some (T.dat (.str (tz L))), some (.fn f2 (pn 8 1 f2 d2 cs2)), some (.loc 0), a5', a6, a7, some (.loc q), a9, some (T.dat (.str (tz [c]))), some (.loc x), a12'] μ') :
    wFor (wiA (wVar 8)) (wgName 5) (w_first_text_6 pn) D [some t0, some (.fn f1 (pn 8 2 f1 d1 cs1)), some (T.dat (.str (tz L))), some (.fn f2 (pn 8 1 f2 d2 cs2)), some (.loc 0), a5, a6, a7, some (.loc q), a9, some (T.dat (.str (tz [c]))), some (.loc x), a12] μ := by
  rw [wFor_eq]
  refine wiA_L (t := .loc q) (ts := S.map nT) (var_q rfl) (rdL_live hq) ?_
  obtain ⟨Inv, hI⟩ : ∃ Inv : Nat → En → Mu → Prop, Inv = fun l env' μ' => ∃ a5' a12', env' = [some t0, some (.fn f1 (pn 8 2 f1 d1 cs1)), some (T.dat (.str (tz L))), some (.fn f2 (pn 8 1 f2 d2 cs2)), some (.loc 0), a5', a6, a7, some (.loc q), a9, some (T.dat (.str (tz [c]))), some (.loc x), a12'] ∧
    Ag [0, x] μ μ' ∧ μ'[0]? = some (.dt (sD (addN sn ((S.take l).flatMap fun v => step v c)).1)) ∧ μ'[x]? = some (.lst ((addN sn ((S.take l).flatMap fun v => step v c)).2.map nT)) := ⟨_, rfl⟩
  refine ⟨Inv, by rw [hI]; exact ⟨a5, a12, rfl, Ag.refl _ _, h0, hx⟩, fun l env' μ' _ h => ?_, fun l env' μ' hl h => ?_, fun env' μ' h => ?_⟩
  · rw [hI] at h
    obtain ⟨_, _, _, ag, _, _⟩ := h
    exact rdL_live (ag.2 _ _ (not_two q0 qx) hq)
  · have hl : l < S.length := by
      have : l < (S.map nT).length := hl
      simpa using this
    rw [hI] at h
    obtain ⟨a5', a12', rfl, ag, g0, gx⟩ := h
    refine ⟨nT S[l], by simp [hl], ?_⟩
    obtain ⟨u, hu⟩ : ∃ u, u = S[l] := ⟨_, rfl⟩
    have mu : u ∈ S := by rw [hu]; exact List.getElem_mem hl
    obtain ⟨p, hp⟩ : ∃ p, p = addN sn ((S.take l).flatMap fun v => step v c) := ⟨_, rfl⟩
    have et : addN sn ((S.take (l + 1)).flatMap fun v => step v c) = ((addN p.1 (step u c)).1, p.2 ++ (addN p.1 (step u c)).2) := by
      rw [List.take_succ_eq_append_getElem hl, List.flatMap_append, addN_app, ← hp, ← hu]
      simp
    rw [← hp] at g0 gx
    rw [← hu]
    have memp : ∀ z ∈ p.1, z ∈ U := fun z m => by
      rw [hp] at m
      rcases ((addN_mem z _ sn).1).mp m with k | k
      · exact sub z k
      · obtain ⟨v, mv, mz⟩ := List.mem_flatMap.mp k
        exact hS.cl v (hv v (List.mem_of_mem_take mv)) c hc z mz
    have lp2 : p.1.length = sn.length + p.2.length := by rw [hp]; exact addN_len _ _
    simp only [wgName, List.set_cons_succ, List.set_cons_zero]
    have next : ∀ (D' : DE), D'.nx = Inv (l + 1) → w_first_text_6 pn D' [some t0, some (.fn f1 (pn 8 2 f1 d1 cs1)), some (T.dat (.str (tz L))), some (.fn f2 (pn 8 1 f2 d2 cs2)), some (.loc 0), some (nT u), a6, a7, some (.loc q), a9, some (T.dat (.str (tz [c]))), some (.loc x), a12'] μ' := fun D' hD' => by
      refine goal_loop hS (hv u mu) hc g0 gx x0 (by rw [hp]; exact addN_nd _ _ nd) memp (by omega) fun a12'' μ'' ag2 k0 kx => ?_
      rw [hD', hI]
      refine ⟨_, _, rfl, ag.trans ag2, ?_, ?_⟩
      · rw [et]; exact k0
      · rw [et]; exact kx
    exact next _ rfl
  · rw [hI] at h
    have e : (itL (.loc q) (S.map nT)).n = S.length := by simp [itL]
    rw [e, List.take_length] at h
    obtain ⟨a5', a12', rfl, ag, g0, gx⟩ := h
    exact hD a5' a12' μ' ag g0 gx
/-- groups that are being gathered at h -/
def Lat (h : Nat) (μ : Mu) (lt : Grp Nd) : Prop := ∃ ls : List (Nat × Nat), μ[h]? = some (.lst (ls.map fun p => .loc p.1)) ∧ GIn (h + 1) μ.length μ ls lt
theorem ag_app {X : List Nat} {μ μ' : Mu} (a : Ag X μ μ') (g : Mu) : Ag X μ (μ' ++ g) := a.trans (Ag.app X μ' g)
theorem pic_loop (hS : Sem2 L U step goal d1 cs1 d2 cs2) {S : List Nd} {w : List Nat} {q h : Nat} (hv : ∀ v ∈ S, v ∈ U) (lS : S.length ≤ 100000) (lw : w.length ≤ 100000) {μ : Mu} {sn : List Nd} {lt : Grp Nd} (h0 : μ[0]? = some (.dt (sD sn))) (hq : μ[q]? = some (.lst (S.map nT))) (q0 : q ≠ 0) (qh : q < h) (hh : 0 < h) (hl : Lat h μ lt)
    (ll : lt.length ≤ sn.length) (nd : sn.Nodup) (sub : ∀ u ∈ sn, u ∈ U) {D : DE}
    (hD : ∀ a5' a10' a11' a12' μ' sn' lt', (sn', lt') = groupS step L (sn, lt) (w, S) → Ag [0, h] μ μ' → μ'[0]? = some (.dt (sD sn')) → Lat h μ' lt' → lt'.length ≤ sn'.length → sn'.Nodup → (∀ u ∈ sn', u ∈ U) → sn.length + lt'.length ≤ sn'.length + lt.length →
      D.nx [some t0, some (.fn f1 (pn 8 2 f1 d1 cs1)), some (T.dat (.str (tz L))), some (.fn f2 (pn 8 1 f2 d2 cs2)), some (.loc 0), a5', a6, some (T.dat (.str (tz w))), some (.loc q), some (.loc h), a10', a11', a12'] μ') :
    w_first_text_9 pn D [some t0, some (.fn f1 (pn 8 2 f1 d1 cs1)), some (T.dat (.str (tz L))), some (.fn f2 (pn 8 1 f2 d2 cs2)), some (.loc 0), a5, a6, some (T.dat (.str (tz w))), some (.loc q), some (.loc h), a10, a11, a12] μ := by
  unfold w_first_text_9
  rw [wFor_eq]
  refine wiA_S (z := tz L) (var_q rfl) ?_
  have en : (itS (tz L)).n = L.length := by simp [itS, tz]
  obtain ⟨Inv, hI⟩ : ∃ Inv : Nat → En → Mu → Prop, Inv = fun j env' μ' => ∃ a5' a10' a11' a12' sn' lt', env' = [some t0, some (.fn f1 (pn 8 2 f1 d1 cs1)), some (T.dat (.str (tz L))), some (.fn f2 (pn 8 1 f2 d2 cs2)), some (.loc 0), a5', a6, some (T.dat (.str (tz w))), some (.loc q), some (.loc h), a10', a11', a12'] ∧
    (sn', lt') = (L.take j).foldl (fun p c => pairS step p (w, S) c) (sn, lt) ∧ Ag [0, h] μ μ' ∧ μ'[0]? = some (.dt (sD sn')) ∧ Lat h μ' lt' ∧ lt'.length ≤ sn'.length ∧ sn'.Nodup ∧ (∀ u ∈ sn', u ∈ U) ∧ sn.length + lt'.length ≤ sn'.length + lt.length := ⟨_, rfl⟩
  refine ⟨Inv, by rw [hI]; exact ⟨a5, a10, a11, a12, sn, lt, rfl, rfl, Ag.refl _ _, h0, hl, ll, nd, sub, Nat.le_refl _⟩, fun j env' μ' _ _ => trivial, fun j env' μ' hj hinv => ?_, fun env' μ' hinv => ?_⟩
  · rw [en] at hj
    rw [hI] at hinv
    obtain ⟨a5', a10', a11', a12', sn', lt', rfl, ep, ag, g0, gl, gll, gnd, gsub, gcnt⟩ := hinv
    obtain ⟨c, hc⟩ : ∃ c, c = L[j] := ⟨_, rfl⟩
    refine ⟨c, by show L.toArray[j]? = _; rw [List.getElem?_toArray, hc]; exact List.getElem?_eq_getElem hj, ?_⟩
    have mc : c ∈ L := by rw [hc]; exact List.getElem_mem hj
    have et : (L.take (j + 1)).foldl (fun p c => pairS step p (w, S) c) (sn, lt) = pairS step (sn', lt') (w, S) c := by
      rw [List.take_succ_eq_append_getElem hj, List.foldl_append, ← ep, ← hc]
      rfl
    show w_first_text_8 pn _ _ _
    simp only [wgName, List.set_cons_succ, List.set_cons_zero]
    have next : ∀ (D' : DE), D'.nx = Inv (j + 1) → w_first_text_8 pn D' [some t0, some (.fn f1 (pn 8 2 f1 d1 cs1)), some (T.dat (.str (tz L))), some (.fn f2 (pn 8 1 f2 d2 cs2)), some (.loc 0), a5', a6, some (T.dat (.str (tz w))), some (.loc q), some (.loc h), some (T.dat (.str (tz [c]))), a11', a12'] μ' := fun D' hD' => by
      have l0 : 0 < μ'.length := (List.getElem?_eq_some_iff.mp g0).1
      have gq : μ'[q]? = some (.lst (S.map nT)) := ag.2 _ _ (not_two q0 (by omega)) hq
      have lq : q < μ'.length := (List.getElem?_eq_some_iff.mp gq).1
      obtain ⟨ls, glh, gin⟩ := gl
      have lh : h < μ'.length := (List.getElem?_eq_some_iff.mp glh).1
      simp only [w_first_text_8, wSeq, wAsg, wLst, wNil, mkL, wgName, List.set_cons_succ, List.set_cons_zero]
      obtain ⟨μ1, hμ1⟩ : ∃ μ1, μ1 = μ' ++ [O.lst []] := ⟨_, rfl⟩
      have up1 : ∀ {n : Nat} {o : O}, μ'[n]? = some o → μ1[n]? = some o := fun {n o} k => by
        rw [hμ1, List.getElem?_append_left (List.getElem?_eq_some_iff.mp k).1]
        exact k
      have x1 : μ1[μ'.length]? = some (.lst []) := by rw [hμ1]; simp
      have l1 : μ1.length = μ'.length + 1 := by rw [hμ1]; simp
      have ag1 : Ag [0, μ'.length] μ' μ1 := by rw [hμ1]; exact Ag.app _ _ _
      rw [← hμ1]
      refine ⟨Nat.zero_le _, ?_⟩
      show w_first_text_7 pn D' _ μ1
      simp only [w_first_text_7, wSeq]
      refine node_loop hS hv lS mc (up1 g0) x1 (by omega) (up1 gq) q0 (by omega) gnd gsub fun a5'' a12'' μ2 ag2 k0 kx => ?_
      obtain ⟨fr, hfr⟩ : ∃ fr, fr = (addN sn' (S.flatMap fun v => step v c)).2 := ⟨_, rfl⟩
      obtain ⟨sn2, hsn2⟩ : ∃ sn2, sn2 = (addN sn' (S.flatMap fun v => step v c)).1 := ⟨_, rfl⟩
      have mem2 : ∀ z ∈ sn2, z ∈ U := fun z m => by
        rw [hsn2] at m
        rcases ((addN_mem z _ sn').1).mp m with k | k
        · exact gsub z k
        · obtain ⟨v, mv, mz⟩ := List.mem_flatMap.mp k
          exact hS.cl v (hv v mv) c mc z mz
      have nd2 : sn2.Nodup := by rw [hsn2]; exact addN_nd _ _ gnd
      have len2 : sn2.length = sn'.length + fr.length := by rw [hsn2, hfr]; exact addN_len _ _
      have memf : ∀ z ∈ fr, z ∈ U := fun z m => by
        rw [hfr] at m
        exact mem2 z (by rw [hsn2]; exact ((addN_mem z _ sn').1).mpr (.inr (((addN_mem z _ sn').2).mp m).2))
      rw [← hsn2] at k0
      rw [← hfr] at kx
      have b2 : sn2.length ≤ 100000 := Nat.le_trans (nd_subN nd2 mem2) hS.un
      have agA : Ag [0, μ'.length] μ' μ2 := ag1.trans ag2
      have l2 : μ'.length + 1 ≤ μ2.length := by have := ag2.1; omega
      have gl2 : μ2[h]? = some (.lst (ls.map fun p => .loc p.1)) := agA.2 _ _ (not_two (by omega) (by omega)) glh
      have gin2 : GIn (h + 1) μ'.length μ2 ls lt' := gin.kp agA fun n m => by
        rcases List.mem_cons.mp m with e | e
        · omega
        · have := List.mem_singleton.mp e; omega
      have agB : Ag [0, h] μ μ2 := ⟨by have := ag.1; omega, fun n o hn ho => agA.2 n o (not_two (fun e => hn (by rw [e]; simp)) (by have := (List.getElem?_eq_some_iff.mp ho).1; have := ag.1; omega)) (ag.2 n o hn ho)⟩
      simp only [w_first_text_3, wIfS, wB, wOp, wVar, wLst, wNil, mkL, List.getElem?_cons_zero, List.getElem?_cons_succ]
      obtain ⟨μ3, hμ3⟩ : ∃ μ3, μ3 = μ2 ++ [O.lst []] := ⟨_, rfl⟩
      have up3 : ∀ {n : Nat} {o : O}, μ2[n]? = some o → μ3[n]? = some o := fun {n o} k => by
        rw [hμ3, List.getElem?_append_left (List.getElem?_eq_some_iff.mp k).1]
        exact k
      have l3 : μ3.length = μ2.length + 1 := by rw [hμ3]; simp
      have ag3 : Ag [0, h] μ2 μ3 := by rw [hμ3]; exact Ag.app _ _ _
      rw [← hμ3]
      refine ⟨Nat.zero_le _, ?_⟩
      refine oNeA_dd (d := .list (fr.map ndD)) (e := .list []) (toD_lst (up3 kx) (toDs_nT _ _ _)) (toD_lst (n := μ2.length) (ts := []) (by rw [hμ3]; simp) (by simp [toDs])) (nds_shp fun v m => hS.kg v (memf v m)) shaped_nil ?_
      rw [eqv_nil]
      have gin3 : GIn (h + 1) μ'.length μ3 ls lt' := gin2.kp ag3 fun n m => by
        rcases List.mem_cons.mp m with e | e
        · omega
        · have := List.mem_singleton.mp e; omega
      by_cases ef : fr = []
      · have e0 : (!(fr.map ndD).isEmpty) = false := by rw [ef]; rfl
        simp only [e0, asB, nm, Bool.false_eq_true, if_false, wNext]
        rw [hD', hI]
        refine ⟨_, _, _, _, sn2, lt', rfl, ?_, agB.trans ag3, up3 k0, ⟨ls, up3 gl2, gin3.wide (Nat.le_refl _) (by omega)⟩, by omega, nd2, mem2, by omega⟩
        rw [et]
        unfold pairS
        dsimp only
        rw [if_pos (by rw [← hfr]; exact ef), hsn2]
      · have e0 : (!(fr.map ndD).isEmpty) = true := by
          cases hf : fr with
          | nil => exact absurd hf ef
          | cons a r => rfl
        have lf : 1 ≤ fr.length := by
          cases hf : fr with
          | nil => exact absurd hf ef
          | cons a r => simp
        simp only [e0, asB, nm, if_true, wDrop, wBM, wVar, wCons, wNil, wTup, wOp, List.getElem?_cons_zero, List.getElem?_cons_succ]
        refine ⟨tyT_live (up3 gl2), ?_⟩
        refine oAdd_str _ _ _ _ (by rw [tz_len, tz_len]; simp; omega) ?_
        rw [tz_cat]
        refine ⟨by have := sizeLine_ge; simp; omega, ?_⟩
        refine mkT_live (n := μ'.length) (by simp) (up3 kx) (fun d z => nomatch z) ?_
        have gl4 : (μ3 ++ [O.tup [T.dat (.str (tz (w ++ [c]))), .loc μ'.length]])[h]? = some (.lst (ls.map fun p => .loc p.1)) := by
          rw [List.getElem?_append_left (by omega)]
          exact up3 gl2
        have lls : ls.length = lt'.length := gin.len
        refine mAppend_live gl4 (by simp; omega) ?_
        have ag4 : Ag [0, h] μ3 ((μ3 ++ [O.tup [T.dat (.str (tz (w ++ [c]))), .loc μ'.length]]).set h (.lst (ls.map (fun p => T.loc p.1) ++ [.loc μ3.length]))) := (Ag.app _ _ _).trans (Ag.set (by simp) _ _)
        rw [hD', hI]
        refine ⟨_, _, _, _, sn2, lt' ++ [(w ++ [c], fr)], rfl, ?_, (agB.trans ag3).trans ag4, ?_, ⟨ls ++ [(μ3.length, μ'.length)], ?_, ?_⟩, by simp; omega, nd2, mem2, by simp; omega⟩
        · rw [et]
          unfold pairS
          dsimp only
          rw [if_neg (by rw [← hfr]; exact ef), hsn2, hfr]
        · rw [List.getElem?_set_ne (by omega), List.getElem?_append_left (by omega)]
          exact up3 k0
        · rw [List.getElem?_set_self (by simp; omega)]
          simp
        · refine GIn.snoc ((gin3.kp ag4 fun n m => ?_).wide (Nat.le_refl _) (by simp; omega)) ⟨by show h + 1 ≤ μ3.length; omega, by simp, by show h + 1 ≤ μ'.length; omega, by simp; omega, ?_, ?_⟩
          · rcases List.mem_cons.mp m with e | e
            · omega
            · have := List.mem_singleton.mp e; omega
          · rw [List.getElem?_set_ne (show h ≠ μ3.length by omega)]
            simp
          · rw [List.getElem?_set_ne (show h ≠ μ'.length by omega), List.getElem?_append_left (by show μ'.length < μ3.length; omega)]
            exact up3 kx
    exact next _ rfl
  · rw [en] at hinv
    rw [hI] at hinv
    obtain ⟨a5', a10', a11', a12', sn', lt', rfl, ep, ag, g0, gl, gll, gnd, gsub, gcnt⟩ := hinv
    rw [List.take_length] at ep
    exact hD a5' a10' a11' a12' μ' sn' lt' ep ag g0 gl gll gnd gsub gcnt
theorem cAny_live {n : Nat} {bs : List Bool} {μ : Mu} {P : KT} (h : μ[n]? = some (.lst (bs.map fun b => .dat (.bool b)))) (hp : P (.dat (.bool (bs.any id))) μ) : cAny [.loc n] μ P := by
  unfold cAny cBL
  simp only [rdL_live h, bolsT_map]
  exact hp
/-- a tuple of two at a place is taken apart -/
theorem two_tup {n : Nat} {u v : T} {i j : Nat} {env : En} {μ : Mu} {P : En → Mu → Prop} (h : μ[n]? = some (.tup [u, v])) (hp : P ((env.set i (some u)).set j (some v)) μ) : wgTup 2 (wgCons (wgName i) (wgCons (wgName j) wgNil)) (.loc n) env μ P := by
  unfold wgTup
  have : rdT μ (.loc n) = some [u, v] := by simp [rdT, h]
  rw [this]
  exact ⟨rfl, rfl, hp⟩
theorem grp_loop (hS : Sem2 L U step goal d1 cs1 d2 cs2) {g h : Nat} {ls : List (Nat × Nat)} {gs : Grp Nd} {μ : Mu} {sn : List Nd} (hg : μ[g]? = some (.lst (ls.map fun p => .loc p.1))) (g0 : g ≠ 0) (gh : g < h) (gin : GIn 1 h μ ls gs) (h0 : μ[0]? = some (.dt (sD sn))) (hl : Lat h μ []) (nd : sn.Nodup) (sub : ∀ u ∈ sn, u ∈ U)
    (hw : ∀ q ∈ gs, q.1.length ≤ 100000 ∧ q.2.length ≤ 100000 ∧ ∀ v ∈ q.2, v ∈ U) {D : DE}
    (hD : ∀ a5' a7' a8' a10' a11' a12' μ' sn' lt', (sn', lt') = layer step L sn gs → Ag [0, h] μ μ' → μ'[0]? = some (.dt (sD sn')) → Lat h μ' lt' → sn'.Nodup → (∀ u ∈ sn', u ∈ U) → sn.length + lt'.length ≤ sn'.length →
      D.nx [some t0, some (.fn f1 (pn 8 2 f1 d1 cs1)), some (T.dat (.str (tz L))), some (.fn f2 (pn 8 1 f2 d2 cs2)), some (.loc 0), a5', some (.loc g), a7', a8', some (.loc h), a10', a11', a12'] μ') :
    wFor (wiA (wVar 6)) (wgTup 2 (wgCons (wgName 7) (wgCons (wgName 8) wgNil))) (w_first_text_9 pn) D [some t0, some (.fn f1 (pn 8 2 f1 d1 cs1)), some (T.dat (.str (tz L))), some (.fn f2 (pn 8 1 f2 d2 cs2)), some (.loc 0), a5, some (.loc g), a7, a8, some (.loc h), a10, a11, a12] μ := by
  rw [wFor_eq]
  refine wiA_L (t := .loc g) (ts := ls.map fun p => .loc p.1) (var_q rfl) (rdL_live hg) ?_
  have en : (itL (.loc g) (ls.map fun p => T.loc p.1)).n = gs.length := by rw [← gin.len]; simp [itL]
  obtain ⟨Inv, hI⟩ : ∃ Inv : Nat → En → Mu → Prop, Inv = fun i env' μ' => ∃ a5' a7' a8' a10' a11' a12' sn' lt', env' = [some t0, some (.fn f1 (pn 8 2 f1 d1 cs1)), some (T.dat (.str (tz L))), some (.fn f2 (pn 8 1 f2 d2 cs2)), some (.loc 0), a5', some (.loc g), a7', a8', some (.loc h), a10', a11', a12'] ∧
    (sn', lt') = (gs.take i).foldl (groupS step L) (sn, []) ∧ Ag [0, h] μ μ' ∧ μ'[0]? = some (.dt (sD sn')) ∧ Lat h μ' lt' ∧ lt'.length ≤ sn'.length ∧ sn'.Nodup ∧ (∀ u ∈ sn', u ∈ U) ∧ sn.length + lt'.length ≤ sn'.length := ⟨_, rfl⟩
  refine ⟨Inv, by rw [hI]; exact ⟨a5, a7, a8, a10, a11, a12, sn, [], rfl, rfl, Ag.refl _ _, h0, hl, Nat.zero_le _, nd, sub, Nat.le_refl _⟩, fun i env' μ' _ hinv => ?_, fun i env' μ' hi hinv => ?_, fun env' μ' hinv => ?_⟩
  · rw [hI] at hinv
    obtain ⟨_, _, _, _, _, _, _, _, _, _, ag, _⟩ := hinv
    exact rdL_live (ag.2 _ _ (not_two g0 (by omega)) hg)
  · rw [en] at hi
    rw [hI] at hinv
    obtain ⟨a5', a7', a8', a10', a11', a12', sn', lt', rfl, ep, ag, k0, gl, gll, gnd, gsub, gcnt⟩ := hinv
    have hi2 : i < ls.length := by rw [gin.len]; exact hi
    obtain ⟨q, hq⟩ : ∃ q, q = gs[i] := ⟨_, rfl⟩
    obtain ⟨p, hp⟩ : ∃ p, p = ls[i] := ⟨_, rfl⟩
    obtain ⟨b1, b2, b3, b4, b5, b6⟩ := gin.at_ i p q (by rw [hp]; exact List.getElem?_eq_getElem hi2) (by rw [hq]; exact List.getElem?_eq_getElem hi)
    have mq : q ∈ gs := by rw [hq]; exact List.getElem_mem hi
    obtain ⟨w1, w2, w3⟩ := hw q mq
    refine ⟨.loc p.1, by rw [List.getElem?_map, List.getElem?_eq_getElem hi2, ← hp]; rfl, ?_⟩
    have et : (gs.take (i + 1)).foldl (groupS step L) (sn, []) = groupS step L (sn', lt') q := by
      rw [List.take_succ_eq_append_getElem hi, List.foldl_append, ← ep, ← hq]
      rfl
    refine two_tup (ag.2 _ _ (not_two (by omega) (by omega)) b5) ?_
    simp only [List.set_cons_succ, List.set_cons_zero]
    have next : ∀ (D' : DE), D'.nx = Inv (i + 1) → w_first_text_9 pn D' [some t0, some (.fn f1 (pn 8 2 f1 d1 cs1)), some (T.dat (.str (tz L))), some (.fn f2 (pn 8 1 f2 d2 cs2)), some (.loc 0), a5', some (.loc g), some (T.dat (.str (tz q.1))), some (.loc p.2), some (.loc h), a10', a11', a12'] μ' := fun D' hD' => by
      refine pic_loop hS (S := q.2) (w := q.1) w3 w2 w1 k0 (ag.2 _ _ (not_two (by omega) (by omega)) b6) (by omega) (by omega) (by omega) gl gll gnd gsub fun c5 c10 c11 c12 μ2 sn2 lt2 e2 ag2 m0 ml mll mnd msub mcnt => ?_
      rw [hD', hI]
      exact ⟨_, _, _, _, _, _, sn2, lt2, rfl, by rw [et]; exact e2, ag.trans ag2, m0, ml, mll, mnd, msub, by omega⟩
    exact next _ rfl
  · rw [en] at hinv
    rw [hI] at hinv
    obtain ⟨a5', a7', a8', a10', a11', a12', sn', lt', rfl, ep, ag, k0, gl, gll, gnd, gsub, gcnt⟩ := hinv
    rw [List.take_length] at ep
    exact hD _ _ _ _ _ _ _ _ _ ep ag k0 gl gnd gsub gcnt
theorem any_loop (hS : Sem2 L U step goal d1 cs1 d2 cs2) {g h : Nat} {ls : List (Nat × Nat)} {gs : Grp Nd} {μ : Mu} (hg : μ[g]? = some (.lst (ls.map fun p => .loc p.1))) (gin : GIn 1 h μ ls gs) (hw : ∀ q ∈ gs, q.2.length ≤ 100000 ∧ ∀ v ∈ q.2, v ∈ U) {D : DE}
    (hR : ∀ pre w S post μ', gs = pre ++ (w, S) :: post → (∀ q ∈ pre, ∀ v ∈ q.2, goal v = false) → (∃ v ∈ S, goal v = true) → D.rt (T.dat (.str (tz w))) μ')
    (hD : ∀ a7' a8' μ', Ag [] μ μ' → (∀ q ∈ gs, ∀ v ∈ q.2, goal v = false) →
      D.nx [some t0, some (.fn f1 (pn 8 2 f1 d1 cs1)), some (T.dat (.str (tz L))), some (.fn f2 (pn 8 1 f2 d2 cs2)), some (.loc 0), a5, some (.loc g), a7', a8', a9, a10, a11, a12] μ') :
    wFor (wiA (wVar 6)) (wgTup 2 (wgCons (wgName 7) (wgCons (wgName 8) wgNil))) (w_first_text_12 pn) D [some t0, some (.fn f1 (pn 8 2 f1 d1 cs1)), some (T.dat (.str (tz L))), some (.fn f2 (pn 8 1 f2 d2 cs2)), some (.loc 0), a5, some (.loc g), a7, a8, a9, a10, a11, a12] μ := by
  rw [wFor_eq]
  refine wiA_L (t := .loc g) (ts := ls.map fun p => .loc p.1) (var_q rfl) (rdL_live hg) ?_
  have en : (itL (.loc g) (ls.map fun p => T.loc p.1)).n = gs.length := by rw [← gin.len]; simp [itL]
  obtain ⟨Inv, hI⟩ : ∃ Inv : Nat → En → Mu → Prop, Inv = fun i env' μ' => ∃ a7' a8', env' = [some t0, some (.fn f1 (pn 8 2 f1 d1 cs1)), some (T.dat (.str (tz L))), some (.fn f2 (pn 8 1 f2 d2 cs2)), some (.loc 0), a5, some (.loc g), a7', a8', a9, a10, a11, a12] ∧ Ag [] μ μ' ∧ ∀ q ∈ gs.take i, ∀ v ∈ q.2, goal v = false := ⟨_, rfl⟩
  refine ⟨Inv, by rw [hI]; exact ⟨a7, a8, rfl, Ag.refl _ _, fun q m => by simp at m⟩, fun i env' μ' _ hinv => ?_, fun i env' μ' hi hinv => ?_, fun env' μ' hinv => ?_⟩
  · rw [hI] at hinv
    obtain ⟨_, _, _, ag, _⟩ := hinv
    exact rdL_live (ag.2 _ _ (by simp) hg)
  · rw [en] at hi
    rw [hI] at hinv
    obtain ⟨a7', a8', rfl, ag, no⟩ := hinv
    have hi2 : i < ls.length := by rw [gin.len]; exact hi
    obtain ⟨q, hq⟩ : ∃ q, q = gs[i] := ⟨_, rfl⟩
    obtain ⟨p, hp⟩ : ∃ p, p = ls[i] := ⟨_, rfl⟩
    obtain ⟨b1, b2, b3, b4, b5, b6⟩ := gin.at_ i p q (by rw [hp]; exact List.getElem?_eq_getElem hi2) (by rw [hq]; exact List.getElem?_eq_getElem hi)
    have mq : q ∈ gs := by rw [hq]; exact List.getElem_mem hi
    obtain ⟨w2, w3⟩ := hw q mq
    refine ⟨.loc p.1, by rw [List.getElem?_map, List.getElem?_eq_getElem hi2, ← hp]; rfl, ?_⟩
    refine two_tup (ag.2 _ _ (by simp) b5) ?_
    simp only [List.set_cons_succ, List.set_cons_zero]
    have hq6 := ag.2 _ _ (by simp) b6
    have next : ∀ (D' : DE), D'.nx = Inv (i + 1) → D'.rt = D.rt → w_first_text_12 pn D' [some t0, some (.fn f1 (pn 8 2 f1 d1 cs1)), some (T.dat (.str (tz L))), some (.fn f2 (pn 8 1 f2 d2 cs2)), some (.loc 0), a5, some (.loc g), some (T.dat (.str (tz q.1))), some (.loc p.2), a9, a10, a11, a12] μ' := fun D' hD' hR' => by
      simp only [w_first_text_12, wIfS, wTru, wCB, wCons, wNil, wLc_eq]
      refine wiA_L (t := .loc p.2) (ts := q.2.map nT) (var_q rfl) (rdL_live hq6) ?_
      refine lc_list (fun i => .dat (.bool (goal (q.2.getD i [])))) (rdL_live hq6) (by simp; omega) (fun j x hx Q hQ => ?_) ?_
      · rw [List.getElem?_map] at hx
        obtain ⟨v, hv, rfl⟩ := Option.map_eq_some_iff.mp hx
        have ev : q.2.getD j [] = v := by rw [List.getD_eq_getElem?_getD, hv]; rfl
        rw [ev] at hQ
        refine ⟨f2, d2, cs2, rfl, ?_⟩
        exact hS.go v (w3 v (List.mem_of_getElem? hv)) μ' Q _ hQ
      have el : (List.range (q.2.map nT).length).map (fun i => T.dat (.bool (goal (q.2.getD i [])))) = (q.2.map goal).map fun b => T.dat (.bool b) := by
        rw [List.length_map, List.map_map]
        exact range_map (f := fun v => T.dat (.bool (goal v))) (d := []) q.2
      rw [el]
      refine cAny_live (bs := q.2.map goal) (by simp) ?_
      have ea : (q.2.map goal).any id = q.2.any goal := by simp [List.any_map]
      rw [ea]
      by_cases c : q.2.any goal = true
      · rw [c]
        simp only [asTru, truT, nm, if_true, wRet, wVar, List.getElem?_cons_zero, List.getElem?_cons_succ]
        rw [hR']
        obtain ⟨v, mv, gv⟩ := List.any_eq_true.mp c
        refine hR (gs.take i) q.1 q.2 (gs.drop (i + 1)) _ ?_ no ⟨v, mv, gv⟩
        have : gs.drop i = q :: gs.drop (i + 1) := by rw [List.drop_eq_getElem_cons hi, ← hq]
        show gs = gs.take i ++ q :: gs.drop (i + 1)
        rw [← this, List.take_append_drop]
      · have c' : q.2.any goal = false := by simpa using c
        rw [c']
        simp only [asTru, truT, nm, Bool.false_eq_true, if_false, wNext]
        rw [hD', hI]
        refine ⟨_, _, rfl, ag_app ag _, fun q' mq' v mv => ?_⟩
        rw [List.take_succ_eq_append_getElem hi, ← hq] at mq'
        rcases List.mem_append.mp mq' with k | k
        · exact no q' k v mv
        · rw [List.mem_singleton.mp k] at mv
          have := List.any_eq_false.mp c' v mv
          simpa using this
    exact next _ rfl rfl
  · rw [en] at hinv
    rw [hI] at hinv
    obtain ⟨a7', a8', rfl, ag, no⟩ := hinv
    rw [List.take_length] at no
    exact hD _ _ _ ag no
end
end DL
/-! FT4: the program's first text: it is the first one. -/
namespace DL
open PySem PySem.Spec L2
open Ft (First Acc_ Lay addN pairS groupS layer Grp addN_app addN_cons addN_mem addN_nd rs rs_snoc Ov ov_snoc)
section
variable {L : List Nat} {U ns : List Nd} {step : Nd → Nat → List Nd} {goal : Nd → Bool} {f1 f2 : Addr} {d1 d2 : DSp} {cs1 cs2 : List T} {pn : PN}
theorem rs_U (cl : ∀ v ∈ U, ∀ c ∈ L, ∀ x ∈ step v c, x ∈ U) (h : ∀ v ∈ ns, v ∈ U) {w : List Nat} : Ov L w → ∀ v ∈ rs step ns w, v ∈ U := by
  refine Tb.snoc_ind (P := fun w => Ov L w → ∀ v ∈ rs step ns w, v ∈ U) (fun _ v m => h v m) (fun w c ih o v m => ?_) w
  obtain ⟨o1, o2⟩ := ov_snoc.mp o
  obtain ⟨u, mu, mv⟩ := rs_snoc.mp m
  exact cl u (ih o1 u mu) c o2 v mv
/-- what a layer keeps of its groups -/
def GQ (L : List Nat) (sn : List Nd) (g : List Nat × List Nd) : Prop := g.2.length ≤ sn.length ∧ Ov L g.1
theorem pairS_Q {p : List Nd × Grp Nd} {g : List Nat × List Nd} {c : Nat} (hc : c ∈ L) (hg : Ov L g.1) (h : ∀ q ∈ p.2, GQ L p.1 q) : ∀ q ∈ (pairS step p g c).2, GQ L (pairS step p g c).1 q := fun q m => by
  have ln := addN_len (g.2.flatMap fun v => step v c) p.1
  have up : ∀ q ∈ p.2, GQ L (pairS step p g c).1 q := fun q m => ⟨by have := (h q m).1; show _ ≤ (addN p.1 _).1.length; omega, (h q m).2⟩
  unfold pairS at m
  dsimp only at m
  split at m
  · exact up q m
  · rcases List.mem_append.mp m with k | k
    · exact up q k
    · rw [List.mem_singleton] at k
      subst k
      exact ⟨by show (addN p.1 _).2.length ≤ (addN p.1 _).1.length; omega, ov_snoc.mpr ⟨hg, hc⟩⟩
theorem groupS_Q {g : List Nat × List Nd} (hg : Ov L g.1) : ∀ (l : List Nat), (∀ c ∈ l, c ∈ L) → ∀ {p : List Nd × Grp Nd}, (∀ q ∈ p.2, GQ L p.1 q) → ∀ q ∈ (l.foldl (fun q c => pairS step q g c) p).2, GQ L (l.foldl (fun q c => pairS step q g c) p).1 q
  | [], _, p, h => h
  | c :: l, hl, p, h => by
    rw [List.foldl_cons]
    exact groupS_Q hg l (fun d m => hl d (List.mem_cons_of_mem _ m)) (pairS_Q (hl c List.mem_cons_self) hg h)
theorem layer_Q : ∀ (gs : Grp Nd), (∀ g ∈ gs, Ov L g.1) → ∀ {p : List Nd × Grp Nd}, (∀ q ∈ p.2, GQ L p.1 q) → ∀ q ∈ (gs.foldl (groupS step L) p).2, GQ L (gs.foldl (groupS step L) p).1 q
  | [], _, p, h => h
  | g :: gs, hg, p, h => by
    rw [List.foldl_cons]
    exact layer_Q gs (fun q m => hg q (List.mem_cons_of_mem _ m)) (groupS_Q (hg g List.mem_cons_self) L (fun c m => m) h)
theorem p_first_text (pn : PN) (ts : List T) (μ : Mu) (PT : KT) (PX : KX) (h : d_first_text pn ts μ PT PX) : w_first_text pn (DEof μ.length PT PX) (startE 13 ts) μ := by
  obtain ⟨ns, L, U, step, goal, f1, f2, d1, d2, cs1, cs2, rfl, rfl, hns, lns, hS, hP⟩ := h
  obtain ⟨t0, ht0⟩ : ∃ t0 : T, t0 = T.dat (.list (ns.map ndD)) := ⟨_, rfl⟩
  rw [← ht0]
  have rt0 : ∀ μ : Mu, rdL μ t0 = some (ns.map nT) := fun μ => by
    rw [ht0]
    show some ((ns.map ndD).map T.dat) = _
    rw [List.map_map]
    rfl
  show w_first_text pn (DEof 0 PT PX) [some t0, some (.fn f1 (pn 8 2 f1 d1 cs1)), some (T.dat (.str (tz L))), some (.fn f2 (pn 8 1 f2 d2 cs2)), none, none, none, none, none, none, none, none, none] []
  have subU : ∀ {n : Nat} {sn : List Nd} {gs : Grp Nd}, Lay L step goal ns n sn gs → ∀ v ∈ sn, v ∈ U := fun {n sn gs} l v m => by
    obtain ⟨w, o, _, z⟩ := (l.seen v).mp m
    exact rs_U hS.cl hns o v z
  -- the loop
  obtain ⟨Wi, hW⟩ : ∃ Wi : Nat → En → Mu → Prop, Wi = fun m env μ => ∃ a5 a7 a8 a9 a10 a11 a12 n sn gs ls g, env = [some t0, some (.fn f1 (pn 8 2 f1 d1 cs1)), some (T.dat (.str (tz L))), some (.fn f2 (pn 8 1 f2 d2 cs2)), some (.loc 0), a5, some (.loc g), a7, a8, a9, a10, a11, a12] ∧
    Lay L step goal ns n sn gs ∧ μ[0]? = some (.dt (sD sn)) ∧ μ[g]? = some (.lst (ls.map fun p => .loc p.1)) ∧ g ≠ 0 ∧ GIn 1 μ.length μ ls gs ∧ (gs ≠ [] → n ≤ sn.length) ∧ (∀ q ∈ gs, GQ L sn q) ∧ m = 2 * (U.length - sn.length) + (if gs = [] then 0 else 1) := ⟨_, rfl⟩
  have loop : ∀ (m : Nat) (env : En) (μ : Mu), Wi m env μ → w_first_text_14 pn (DEof 0 PT PX) env μ := fun m0 env0 μ0 i0 => by
    simp only [w_first_text_14, wSeq, wWhile]
    refine ⟨Wi, ⟨m0, i0⟩, fun m env μ i => ?_⟩
    rw [hW] at i
    obtain ⟨a5, a7, a8, a9, a10, a11, a12, n, sn, gs, ls, g, rfl, lay, h0, hg, g0, gin, hn, hq, rfl⟩ := i
    have lsn : sn.length ≤ U.length := nd_subN lay.nd (subU lay)
    have lU := hS.un
    simp only [wB, wOp, wVar, wLst, wNil, mkL, List.getElem?_cons_zero, List.getElem?_cons_succ]
    obtain ⟨μ1, hμ1⟩ : ∃ μ1, μ1 = μ ++ [O.lst []] := ⟨_, rfl⟩
    have l1 : μ1.length = μ.length + 1 := by rw [hμ1]; simp
    have ag1 : Ag [] μ μ1 := by rw [hμ1]; exact Ag.app _ _ _
    have up1 : ∀ {n : Nat} {o : O}, μ[n]? = some o → μ1[n]? = some o := fun {n o} k => ag1.2 n o (by simp) k
    rw [← hμ1]
    refine ⟨Nat.zero_le _, ?_⟩
    have gin1 : GIn 1 μ.length μ1 ls gs := gin.kp ag1 fun n m => by simp at m
    have lg : g < μ.length := (List.getElem?_eq_some_iff.mp hg).1
    refine oNeA_dd (d := .list (grpD gs)) (e := .list []) (toD_lst (up1 hg) (grp_toD gin1)) (toD_lst (n := μ.length) (ts := []) (by rw [hμ1]; simp) (by simp [toDs])) (grp_shp (fun q m c mc => hS.low c ((hq q m).2 c mc)) fun q m v mv => hS.kg v (subU lay v ((lay.seen v).mpr ⟨q.1, (hq q m).2, by rw [lay.len q m]; exact Nat.le_refl _, (lay.ok q m v mv).2.1⟩))) shaped_nil ?_
    rw [eqv_nil]
    by_cases eg : gs = []
    · have e0 : (!(grpD gs).isEmpty) = false := by rw [eg]; rfl
      simp only [e0, asB, nm, Bool.false_eq_true, if_false]
      subst eg
      show w_first_text_1 _ _ _
      simp only [w_first_text_1, wRet, wC]
      exact end0 (hP none lay.stop)
    · have e0 : (!(grpD gs).isEmpty) = true := by
        cases hgs : gs with
        | nil => exact absurd hgs eg
        | cons a r => rfl
      simp only [e0, asB, nm, if_true]
      have hw : ∀ q ∈ gs, q.1.length ≤ 100000 ∧ q.2.length ≤ 100000 ∧ ∀ v ∈ q.2, v ∈ U := fun q m => by
        have h1 := lay.len q m
        have h2 := hn eg
        have h3 := (hq q m).1
        exact ⟨by omega, by omega, fun v mv => subU lay v ((lay.seen v).mpr ⟨q.1, (hq q m).2, by omega, (lay.ok q m v mv).2.1⟩)⟩
      show w_first_text_13 pn _ _ _
      simp only [w_first_text_13, wSeq]
      refine any_loop hS (up1 hg) gin1 (fun q m => (hw q m).2) (fun pre w S post μ' e1 e2 e3 => ?_) fun a7' a8' μ2 ag2 no => ?_
      · exact end0 (hP (some w) (lay.hit e1 e2 e3))
      · show w_first_text_11 pn _ _ μ2
        simp only [w_first_text_11, wSeq, wAsg, wLst, wNil, mkL, wgName, List.set_cons_succ, List.set_cons_zero]
        refine ⟨Nat.zero_le _, ?_⟩
        obtain ⟨μ3, hμ3⟩ : ∃ μ3, μ3 = μ2 ++ [O.lst []] := ⟨_, rfl⟩
        have l3 : μ3.length = μ2.length + 1 := by rw [hμ3]; simp
        have ag3 : Ag [] μ2 μ3 := by rw [hμ3]; exact Ag.app _ _ _
        have agA : Ag [] μ μ3 := (ag1.trans ag2).trans ag3
        have l2 : μ.length ≤ μ2.length := (ag1.trans ag2).1
        rw [← hμ3]
        show w_first_text_10 pn _ _ μ3
        simp only [w_first_text_10, wSeq]
        have nm2 : ∀ k : Nat, k ∉ ([] : List Nat) := fun k => by simp
        refine grp_loop hS (h := μ2.length) (agA.2 _ _ (nm2 _) hg) g0 (by omega) ((gin.kp agA fun n m => absurd m (nm2 n)).wide (Nat.le_refl _) l2) (agA.2 _ _ (nm2 _) h0) ⟨[], by rw [hμ3]; simp, ⟨rfl, fun i p q e => by simp at e⟩⟩ lay.nd (subU lay) hw fun b5 b7 b8 b10 b11 b12 μ4 sn' lt' el ag4 k0 kl knd ksub kcnt => ?_
        simp only [w_first_text_2, wAsg, wVar, wgName, List.getElem?_cons_zero, List.getElem?_cons_succ, List.set_cons_succ, List.set_cons_zero]
        have lay' := lay.next hS.asc no
        rw [← el] at lay'
        obtain ⟨ls', hl1, hl2⟩ := kl
        have lsn' : sn'.length ≤ U.length := nd_subN knd ksub
        refine ⟨2 * (U.length - sn'.length) + (if lt' = [] then 0 else 1), ?_, ?_⟩
        · rw [if_neg eg]
          by_cases z : lt' = []
          · rw [if_pos z]
            omega
          · rw [if_neg z]
            have : 1 ≤ lt'.length := by
              cases hz : lt' with
              | nil => exact absurd hz z
              | cons a r => simp
            omega
        · rw [hW]
          refine ⟨_, _, _, _, _, _, _, n + 1, sn', lt', ls', μ2.length, rfl, lay', k0, hl1, by omega, hl2.wide (by omega) (Nat.le_refl _), fun z => ?_, ?_, rfl⟩
          · have h2 := hn eg
            have : 1 ≤ lt'.length := by
              cases hz : lt' with
              | nil => exact absurd hz z
              | cons a r => simp
            omega
          · have := layer_Q (L := L) (step := step) gs (fun q m => (hq q m).2) (p := (sn, [])) (fun q m => by simp at m)
            have el' : (sn', lt') = gs.foldl (groupS step L) (sn, []) := el
            rw [← el'] at this
            exact this
  -- the start
  simp only [w_first_text, wSeq, wAsg, wDc]
  obtain ⟨sn0, hsn0⟩ : ∃ sn0, sn0 = (addN [] ns).1 := ⟨_, rfl⟩
  refine wiA_L (t := t0) (ts := ns.map nT) (var_q rfl) (rt0 _) ?_
  refine ⟨.dt [], .inr rfl, fun i μ => μ = [O.dt (sD (addN [] (ns.take i)).1)], rfl, fun i μ _ _ => rt0 _, fun i μ hi e => ?_, fun μ e => ?_⟩
  · have hi : i < ns.length := by
      have : i < (ns.map nT).length := hi
      simpa using this
    subst e
    refine ⟨nT ns[i], by simp [hi], ?_⟩
    simp only [wgName, wipeE, List.set_cons_succ, List.set_cons_zero, wYes, if_true, wVar, List.getElem?_cons_zero, List.getElem?_cons_succ, wC]
    obtain ⟨p, hp⟩ : ∃ p, p = addN [] (ns.take i) := ⟨_, rfl⟩
    have et : (addN [] (ns.take (i + 1))).1 = (addN p.1 [ns[i]]).1 := by rw [List.take_succ_eq_append_getElem hi, addN_app, ← hp]
    rw [et, ← hp]
    have lp : p.1.length ≤ ns.length := by
      have := addN_len (ns.take i) []
      rw [← hp] at this
      have h2 : ∀ z ∈ p.1, z ∈ ns.take i := fun z m => by
        rw [hp] at m
        rcases ((addN_mem z (ns.take i) []).1).mp m with k | k
        · simp at k
        · exact k
      have h3 := nd_subN (by rw [hp]; exact addN_nd _ _ .nil) h2
      rw [List.length_take] at h3
      omega
    refine oDSet_nd (sn := p.1) rfl (by omega) ?_
    rw [addN_one]
    by_cases m : ns[i] ∈ p.1
    · rw [if_pos m, sD_old m]; rfl
    · rw [if_neg m, sD_new m]; rfl
  · have en : (itL t0 (ns.map nT)).n = ns.length := by simp [itL]
    rw [en, List.take_length, ← hsn0] at e
    subst e
    show w_first_text_15 pn _ _ _
    simp only [w_first_text_15, wSeq, wAsg, wLst, wCons, wNil, wTup, wC, wCB, wVar, wgName, List.getElem?_cons_zero, List.getElem?_cons_succ, List.set_cons_succ, List.set_cons_zero, cListD, mkL]
    have hs := sizeLine_ge
    have ek : (sD sn0).map (fun p => ksT p.1) = sn0.map nT := by
      unfold sD
      rw [List.map_map]
      rfl
    have s0nd : sn0.Nodup := by rw [hsn0]; exact addN_nd _ _ .nil
    have s0U : ∀ v ∈ sn0, v ∈ U := fun v m => by
      rw [hsn0] at m
      rcases ((addN_mem v ns []).1).mp m with k | k
      · simp at k
      · exact hns v k
    have ls0 : sn0.length ≤ 100000 := Nat.le_trans (nd_subN s0nd s0U) hS.un
    simp only [List.length_nil, List.getElem?_cons_zero]
    rw [ek]
    refine ⟨by simp; omega, ?_⟩
    refine mkT_live (n := 1) (o := .lst (sn0.map nT)) (by simp) rfl (fun d z => nomatch z) ?_
    refine ⟨by simp; omega, ?_⟩
    refine loop (2 * (U.length - sn0.length) + 1) _ _ ?_
    rw [hW]
    refine ⟨_, _, _, _, _, _, _, 0, sn0, [([], sn0)], [(2, 1)], 3, rfl, by rw [hsn0]; exact Lay.start, rfl, rfl, by omega, ⟨rfl, fun i p q e1 e2 => ?_⟩, fun _ => Nat.zero_le _, fun q m => ?_, by simp⟩
    · match i with
      | 0 =>
        cases e1
        cases e2
        exact ⟨by decide, by simp, by decide, by simp, rfl, rfl⟩
      | i + 1 => simp at e1
    · rw [List.mem_singleton] at m
      subst m
      exact ⟨Nat.le_refl _, fun c mc => by simp at mc⟩
end
end DL
/-! FT5: the first text that one of two tables holds alone. -/
namespace DL
open PySem PySem.Spec L2
open Tb (Rows Gt Lq)
open Ft (First Acc_ rs rs_snoc Ov ov_snoc)
/-! ### plain: runs with a state that is gone -/
/-- the state a picture leads to, -1 if none -/
def nxS (L : List Nat) (R : Rows) (s : Int) (c : Nat) : Int := if s = -1 ∨ c ∉ L then -1 else ((Tb.stp R s.toNat (Tb.ix L c) : Nat) : Int)
def rnS (L : List Nat) (R : Rows) (s : Int) (w : List Nat) : Int := w.foldl (nxS L R) s
def inT (L : List Nat) (R : Rows) (E : List Nat) (w : List Nat) : Bool := inI (rnS L R 0 w) E
/-- a state there is, or none -/
def Stt (R : Rows) (s : Int) : Prop := s = -1 ∨ (0 ≤ s ∧ s < R.length)
theorem nx_stt {L E : List Nat} {R : Rows} (ok : Tok L R E) {s : Int} (h : Stt R s) (c : Nat) : Stt R (nxS L R s c) := by
  unfold nxS
  by_cases z : s = -1 ∨ c ∉ L
  · rw [if_pos z]; exact .inl rfl
  · rw [if_neg z]
    have z1 : ¬ s = -1 := fun e => z (.inl e)
    have z2 : c ∈ L := Classical.byContradiction fun e => z (.inr e)
    rcases h with h | ⟨h1, h2⟩
    · exact absurd h z1
    · have := ok.gt.stp (s := s.toNat) (a := Tb.ix L c) (by omega) (Tb.ix_lt z2)
      exact .inr ⟨by omega, by omega⟩
theorem rn_stt {L E : List Nat} {R : Rows} (ok : Tok L R E) : ∀ (w : List Nat) {s : Int}, Stt R s → Stt R (rnS L R s w)
  | [], s, h => h
  | c :: w, s, h => rn_stt ok w (nx_stt ok h c)
theorem nx_gone (L : List Nat) (R : Rows) (c : Nat) : nxS L R (-1) c = -1 := by unfold nxS; rw [if_pos (.inl rfl)]
theorem rn_snoc (L : List Nat) (R : Rows) (s : Int) (w : List Nat) (c : Nat) : rnS L R s (w ++ [c]) = nxS L R (rnS L R s w) c := by
  unfold rnS
  rw [List.foldl_append]
  rfl
theorem inI_gone (E : List Nat) : inI (-1) E = false := by
  unfold inI
  rw [List.any_eq_false]
  intro x _
  simp
/-! ### pairs of states -/
abbrev prN (s t : Int) : Nd := [.inl s, .inl t]
def stN (L : List Nat) (R : Rows) (L' : List Nat) (R' : Rows) (v : Nd) (c : Nat) : List Nd := match v with
  | [.inl s, .inl t] => if nxS L R s c = -1 ∧ nxS L' R' t c = -1 then [] else [prN (nxS L R s c) (nxS L' R' t c)]
  | _ => []
def goN (E E' : List Nat) (v : Nd) : Bool := match v with
  | [.inl s, .inl t] => inI s E != inI t E'
  | _ => false
def unN (n m : Nat) : List Nd := (List.range (n + 1)).flatMap fun (a : Nat) => (List.range (m + 1)).map fun (b : Nat) => prN ((a : Int) - 1) ((b : Int) - 1)
theorem unN_mem {n m : Nat} {v : Nd} : v ∈ unN n m ↔ ∃ s t : Int, v = prN s t ∧ -1 ≤ s ∧ s < n ∧ -1 ≤ t ∧ t < m := by
  unfold unN
  simp only [List.mem_flatMap, List.mem_map, List.mem_range]
  constructor
  · rintro ⟨a, ha, b, hb, rfl⟩
    exact ⟨_, _, rfl, by omega, by omega, by omega, by omega⟩
  · rintro ⟨s, t, rfl, h1, h2, h3, h4⟩
    refine ⟨(s + 1).toNat, by omega, (t + 1).toNat, by omega, ?_⟩
    rw [show (((s + 1).toNat : Nat) : Int) - 1 = s by omega, show (((t + 1).toNat : Nat) : Int) - 1 = t by omega]
theorem unN_len (n m : Nat) : (unN n m).length = (n + 1) * (m + 1) := by
  unfold unN
  rw [List.length_flatMap]
  simp [List.map_const']
/-- the words that lead somewhere lead to one pair -/
theorem rs_pair {L : List Nat} {R : Rows} {L' : List Nat} {R' : Rows} (w : List Nat) : ∀ v, v ∈ rs (stN L R L' R') [prN 0 0] w ↔ (v = prN (rnS L R 0 w) (rnS L' R' 0 w) ∧ (w = [] ∨ ¬ (rnS L R 0 w = -1 ∧ rnS L' R' 0 w = -1))) := by
  refine Tb.snoc_ind (P := fun w => ∀ v, v ∈ rs (stN L R L' R') [prN 0 0] w ↔ (v = prN (rnS L R 0 w) (rnS L' R' 0 w) ∧ (w = [] ∨ ¬ (rnS L R 0 w = -1 ∧ rnS L' R' 0 w = -1)))) (fun v => ?_) (fun w c ih v => ?_) w
  · simp [rs, rnS]
  · rw [rs_snoc, rn_snoc, rn_snoc]
    constructor
    · rintro ⟨u, mu, mv⟩
      obtain ⟨rfl, _⟩ := (ih u).mp mu
      unfold stN at mv
      simp only [] at mv
      split at mv
      · simp at mv
      · rename_i k
        exact ⟨List.mem_singleton.mp mv, .inr k⟩
    · rintro ⟨rfl, k⟩
      have k : ¬ (nxS L R (rnS L R 0 w) c = -1 ∧ nxS L' R' (rnS L' R' 0 w) c = -1) := k.elim (fun z => by simp at z) id
      refine ⟨_, (ih _).mpr ⟨rfl, ?_⟩, ?_⟩
      · by_cases z : rnS L R 0 w = -1 ∧ rnS L' R' 0 w = -1
        · exact absurd ⟨by rw [z.1]; exact nx_gone _ _ _, by rw [z.2]; exact nx_gone _ _ _⟩ k
        · exact .inr z
      · unfold stN
        simp only []
        rw [if_neg k]
        exact List.mem_singleton.mpr rfl
theorem acc_pair {L E : List Nat} {R : Rows} {L' E' : List Nat} {R' : Rows} (w : List Nat) : Acc_ (stN L R L' R') (goN E E') [prN 0 0] w ↔ inT L R E w ≠ inT L' R' E' w := by
  constructor
  · rintro ⟨v, mv, gv⟩
    obtain ⟨rfl, _⟩ := (rs_pair w v).mp mv
    simpa [goN, inT] using gv
  · intro h
    refine ⟨_, (rs_pair w _).mpr ⟨rfl, ?_⟩, by simpa [goN, inT] using h⟩
    by_cases z : rnS L R 0 w = -1 ∧ rnS L' R' 0 w = -1
    · refine absurd ?_ h
      unfold inT
      rw [z.1, z.2, inI_gone, inI_gone]
    · exact .inr z
/-! ### the program's next state -/
theorem find_one (L : List Nat) (c : Nat) : Txt.find (tz L) (tz [c]) = if c ∈ L then ((Tb.ix L c : Nat) : Int) else -1 := by
  rw [find_tz]
  unfold first
  have occ : ∀ i, (decide (i + [c].length ≤ L.length) && occB L [c] i) = decide (L[i]? = some c) := fun i => by
    rw [Bool.eq_iff_iff]
    simp only [Bool.and_eq_true, decide_eq_true_eq, occB, List.length_cons, List.length_nil]
    have one : ∀ hi : i < L.length, (L.drop i).take 1 = [L[i]] := fun hi => by
      apply List.ext_getElem?
      intro j
      cases j with
      | zero => rw [List.getElem?_take_of_lt (by omega), List.getElem?_drop]; simp [hi]
      | succ j => rw [List.getElem?_eq_none (by rw [List.length_take]; omega), List.getElem?_eq_none (by simp)]
    constructor
    · rintro ⟨h1, h2⟩
      have hi : i < L.length := by omega
      have h2 : (L.drop i).take 1 = [c] := h2
      rw [one hi] at h2
      rw [List.getElem?_eq_getElem hi, List.head_eq_of_cons_eq h2]
    · intro h
      obtain ⟨hi, e⟩ := List.getElem?_eq_some_iff.mp h
      refine ⟨by omega, ?_⟩
      show (L.drop i).take 1 = [c]
      rw [one hi, e]
  simp only [occ]
  by_cases m : c ∈ L
  · rw [if_pos m]
    have hx := Tb.ix_at m
    have lx := Tb.ix_lt m
    have key : (List.range' 0 (L.length + 1 - 0)).find? (fun i => decide (L[i]? = some c)) = some (Tb.ix L c) := by
      rw [List.find?_range'_eq_some]
      refine ⟨by simpa using hx, List.mem_range'_1.mpr ⟨by omega, by omega⟩, fun j h1 h2 => ?_⟩
      simp
      intro z
      have := Tb.ix_le z
      omega
    rw [key]
  · rw [if_neg m]
    have key : (List.range' 0 (L.length + 1 - 0)).find? (fun i => decide (L[i]? = some c)) = none := by
      rw [List.find?_eq_none]
      intro i _
      simp
      intro z
      exact m (List.mem_of_getElem? z)
    rw [key]
/-! ### the walks -/
def w_next_state_1 : WpS := (wRet (wIf (wOr (wB (wOp oEqA (wVar 1) (wC (.int (-1))))) (wB (wOp (oI CTrue gLt) (wVar 3) (wC (.int 0))))) (wC (.int (-1))) (wOp oIx (wOp oIx (wOp oIx (wVar 0) (wC (.int 1))) (wVar 1)) (wVar 3))))
def w_next_state : WpS := (wSeq (wAsg (wBM "str" (mS1 CT2 gFind) (wOp oIx (wVar 0) (wC (.int 0))) (wCons (wVar 2) wNil)) (wgName 3))
    w_next_state_1)
def d_next_state : DSp := fun ts μ P _ => ∃ (L : List Nat) (R : Rows) (E : List Nat) (s : Int) (c : Nat), ts = [.dat (tabD L R E), .dat (.int s), .dat (.str (tz [c]))] ∧ μ = [] ∧ Tok L R E ∧ Stt R s ∧ P (.dat (.int (nxS L R s c))) []
theorem p_next_state (ts : List T) (μ : Mu) (PT : KT) (PX : KX) (h : d_next_state ts μ PT PX) : w_next_state (DEof μ.length PT PX) (startE 4 ts) μ := by
  obtain ⟨L, R, E, s, c, rfl, rfl, ok, hs, hP⟩ := h
  have lL : L.length ≤ 26 := ok.sg.2.2
  simp only [w_next_state, wSeq, wAsg, wBM, wOp, wVar, wC, wCons, wNil, wgName, startE, List.map_cons, List.map_nil, List.cons_append, List.nil_append, List.getElem?_cons_zero, List.getElem?_cons_succ]
  rw [oIxS0]
  refine ⟨by simp [tyT, nm], trivial, ?_⟩
  show w_next_state_1 (DEof 0 PT PX) [some (.dat (tabD L R E)), some (.dat (.int s)), some (.dat (.str (tz [c]))), some (.dat (.int (Txt.find (tz L) (tz [c]))))] []
  rw [find_one]
  simp only [w_next_state_1, wRet, wIf, wOr, wB, wOp, wC, wVar, List.getElem?_cons_zero, List.getElem?_cons_succ]
  rw [oEqA_int']
  simp only [asB, nm]
  by_cases z : s = -1
  · simp only [z, decide_true, if_true]
    refine end0 ?_
    have : nxS L R s c = -1 := by unfold nxS; rw [if_pos (.inl z)]
    rw [this] at hP
    exact hP
  · simp only [z, decide_false, Bool.false_eq_true, if_false, oI, nm, CTrue, gLt]
    by_cases m : c ∈ L
    · have e0 : ¬ (((Tb.ix L c : Nat) : Int) < 0) := by omega
      simp only [if_pos m, e0, decide_false, Bool.false_eq_true, if_false]
      refine ⟨trivial, ?_⟩
      simp only [asB, nm, Bool.false_eq_true, if_false]
      obtain ⟨hs1, hs2⟩ : 0 ≤ s ∧ s < R.length := hs.resolve_left z
      obtain ⟨n, rfl⟩ : ∃ n : Nat, s = n := ⟨s.toNat, by omega⟩
      have hn : n < R.length := by omega
      obtain ⟨r1, r2, r3⟩ := Tb.row_at ok.gt hn
      rw [oIxS1]
      refine oIx_dl (i := n) (d := .list (inz (R.getD n []))) (by simp [rwD, hn]) ?_
      refine oIx_dl (i := Tb.ix L c) (d := .int ((Tb.stp R n (Tb.ix L c) : Nat) : Int)) ?_ ?_
      · have := r3 (Tb.ix L c) (Tb.ix_lt m)
        simp only [inz, List.getElem?_map, this, Option.map_some]
      · refine end0 ?_
        have e1 : nxS L R (n : Int) c = ((Tb.stp R n (Tb.ix L c) : Nat) : Int) := by
          unfold nxS
          rw [if_neg (by rintro (q | q); exact z q; exact q m)]
          rfl
        rw [e1] at hP
        exact hP
    · simp only [if_neg m, show ((-1 : Int) < 0) from by decide, decide_true, if_true]
      refine ⟨trivial, ?_⟩
      simp only [asB, nm, if_true]
      refine end0 ?_
      have : nxS L R s c = -1 := by unfold nxS; rw [if_pos (.inr m)]
      rw [this] at hP
      exact hP
theorem c_next_state {L E : List Nat} {R : Rows} {s : Int} {c : Nat} {μ : Mu} {P : KT} {PX : KX} (ok : Tok L R E) (hs : Stt R s) (hP : P (.dat (.int (nxS L R s c))) μ) : callD (Dn 3 d_next_state) [.dat (tabD L R E), .dat (.int s), .dat (.str (tz [c]))] μ P PX :=
  call0d (ds := [tabD L R E, .int s, .str (tz [c])]) fun PT PX' h1 _ _ => ⟨rfl, L, R, E, s, c, rfl, rfl, ok, hs, h1 _ hP⟩
/-! ### the two functions of first_apart -/
theorem end_list0 {n : Nat} {S : List Nd} {μ : Mu} {P : KT} (h : μ[n]? = some (.lst (S.map nT))) (hP : P (.loc 0) [.lst (S.map nT)]) : endV 0 P (.loc n) μ := by
  refine end_new (n0 := 0) (Nat.zero_le _) h (fun o' m f _ => ?_) (fun d z => by cases z) hP
  have : o' = .lst (S.map nT) := by simpa using m
  rw [this]
  show O.lst ((S.map nT).map (T.ren f)) = _
  rw [List.map_map]
  rfl
def w_first_apart_steps_1 : WpS := (wRet (wIf (wB (wOp oEqA (wVar 4) (wTup (wCons (wC (.int (-1))) (wCons (wC (.int (-1))) wNil))))) (wLst wNil) (wLst (wCons (wVar 4) wNil))))
def w_first_apart_steps : WpS := (wSeq (wAsg (wTup (wCons (wCall (Dn 3 d_next_state) (wCons (wVar 2) (wCons (wOp oIx (wVar 0) (wC (.int 0))) (wCons (wVar 1) wNil)))) (wCons (wCall (Dn 3 d_next_state) (wCons (wVar 3) (wCons (wOp oIx (wVar 0) (wC (.int 1))) (wCons (wVar 1) wNil)))) wNil))) (wgName 4))
    w_first_apart_steps_1)
def prD (s t : Int) : PyData := .tuple [.int s, .int t]
theorem eqv_pr (a b x y : Int) : PyData.eqv (prD a b) (prD x y) = decide (a = x ∧ b = y) := by
  show (PyData.eqv (.int a) (.int x) && (PyData.eqv (.int b) (.int y) && true)) = _
  simp only [PyData.eqv]
  rw [Bool.eq_iff_iff]
  simp
def d_first_apart_steps : DSp := fun ts μ P _ => ∃ (L : List Nat) (R : Rows) (E : List Nat) (L' : List Nat) (R' : Rows) (E' : List Nat) (s t : Int) (c : Nat), ts = [nT (prN s t), .dat (.str (tz [c])), .dat (tabD L R E), .dat (tabD L' R' E')] ∧ μ = [] ∧ Tok L R E ∧ Tok L' R' E' ∧ Stt R s ∧ Stt R' t ∧
  P (.loc 0) [.lst ((stN L R L' R' (prN s t) c).map nT)]
theorem p_first_apart_steps (ts : List T) (μ : Mu) (PT : KT) (PX : KX) (h : d_first_apart_steps ts μ PT PX) : w_first_apart_steps (DEof μ.length PT PX) (startE 5 ts) μ := by
  obtain ⟨L, R, E, L', R', E', s, t, c, rfl, rfl, ok, ok', hs, ht, hP⟩ := h
  have i0 : ∀ (μ : Mu) (P : KT), oIx (.dat (prD s t)) (.dat (.int 0)) μ P ↔ P (.dat (.int s)) μ := fun μ P => by simp [prD, DE.px, wSeq, wIfS, wB, wOp, wVar, wC, startE, asB, nm_dat, nm, oI, oIx, oIxQ, oIxS, rdQ, rdL, rdT, wAsg, wgName, wgSub, oSetL, wRet, wRetN, wNext, wDrop, wCall, wCB, wPar, wBM, tyT, wSl, wPart, wNoPart, wgTup, wgCons, wgNil, wCons, wNil, cInt, itR, itT, itS, itL, wiR1, wiR2, wiT, wiS, wiL, wLc_eq, wFor_eq, wYes, wipeE, oAdd_int, oEqA_int', oEqA_str', oNeA_str', onL, atI, ixN, CTrue, gGt, gMul, gMod, gPow, gDiv, gSub, gLt, gLe, gGe, gAdd, gNeg, gMax, gMin, gAbs, cI1, cI2, wUn, uI, wIf, wTru, asTru, truT, wNot, wAnd, wOr, wAndV, wOrV, wNotV, wLst, wTup, mkL, mkT, allD, nm]
  have i1 : ∀ (μ : Mu) (P : KT), oIx (.dat (prD s t)) (.dat (.int 1)) μ P ↔ P (.dat (.int t)) μ := fun μ P => by simp [prD, DE.px, wSeq, wIfS, wB, wOp, wVar, wC, startE, asB, nm_dat, nm, oI, oIx, oIxQ, oIxS, rdQ, rdL, rdT, wAsg, wgName, wgSub, oSetL, wRet, wRetN, wNext, wDrop, wCall, wCB, wPar, wBM, tyT, wSl, wPart, wNoPart, wgTup, wgCons, wgNil, wCons, wNil, cInt, itR, itT, itS, itL, wiR1, wiR2, wiT, wiS, wiL, wLc_eq, wFor_eq, wYes, wipeE, oAdd_int, oEqA_int', oEqA_str', oNeA_str', onL, atI, ixN, CTrue, gGt, gMul, gMod, gPow, gDiv, gSub, gLt, gLe, gGe, gAdd, gNeg, gMax, gMin, gAbs, cI1, cI2, wUn, uI, wIf, wTru, asTru, truT, wNot, wAnd, wOr, wAndV, wOrV, wNotV, wLst, wTup, mkL, mkT, allD, nm]
  have hsz := sizeLine_ge
  show w_first_apart_steps (DEof 0 PT PX) [some (.dat (prD s t)), some (.dat (.str (tz [c]))), some (.dat (tabD L R E)), some (.dat (tabD L' R' E')), none] []
  simp only [w_first_apart_steps, wSeq, wAsg, wTup, wCons, wNil, wCall, wOp, wVar, wC, wgName, List.getElem?_cons_zero, List.getElem?_cons_succ]
  rw [i0]
  refine c_next_state ok hs ?_
  rw [i1]
  refine c_next_state ok' ht ?_
  refine ⟨by simp; omega, ?_⟩
  refine (mkT_2 _ _ _ _).mpr ?_
  simp only [List.set_cons_succ, List.set_cons_zero]
  obtain ⟨a, ha⟩ : ∃ a, a = nxS L R s c := ⟨_, rfl⟩
  obtain ⟨b, hb⟩ : ∃ b, b = nxS L' R' t c := ⟨_, rfl⟩
  have es : stN L R L' R' (prN s t) c = if a = -1 ∧ b = -1 then [] else [prN a b] := by rw [ha, hb]; rfl
  rw [es] at hP
  rw [← ha, ← hb]
  simp only [w_first_apart_steps_1, wRet, wIf, wB, wOp, wVar, wTup, wCons, wNil, wC, List.getElem?_cons_zero, List.getElem?_cons_succ]
  refine ⟨by simp; omega, ?_⟩
  refine (mkT_2 _ _ _ _).mpr ?_
  refine oEqA_dd (d := prD a b) (e := prD (-1) (-1)) (toD_dat _ _ _) (toD_dat _ _ _) (by rfl) (by rfl) ?_
  rw [eqv_pr]
  simp only [asB, nm]
  by_cases z : a = -1 ∧ b = -1
  · rw [if_pos z] at hP
    simp only [decide_eq_true z, if_true, wLst, wNil, mkL]
    refine ⟨Nat.zero_le _, ?_⟩
    exact end_list0 rfl hP
  · rw [if_neg z] at hP
    simp only [decide_eq_false z, Bool.false_eq_true, if_false, wLst, wCons, wNil, wVar, mkL, List.getElem?_cons_zero, List.getElem?_cons_succ]
    refine ⟨by simp; omega, ?_⟩
    exact end_list0 rfl hP
def w_first_apart_is_goal : WpS := (wRet (wOp oNeA (wOp oIn (wOp oIx (wVar 0) (wC (.int 0))) (wOp oIx (wVar 1) (wC (.int 2)))) (wOp oIn (wOp oIx (wVar 0) (wC (.int 1))) (wOp oIx (wVar 2) (wC (.int 2))))))
theorem oIn_i {x : Int} {xs : List Nat} {μ : Mu} {P : KT} (hp : P (.dat (.bool (inI x xs))) μ) : oIn (.dat (.int x)) (.dat (.list (inz xs))) μ P := by
  refine .inr ?_
  show (match allD μ ((inz xs).map T.dat) with
      | some ds => flatD (.int x) = true ∧ ds.all flatD = true ∧ P (.dat (.bool (if false then !ds.any (fun e => PyData.eqv e (.int x)) else ds.any (fun e => PyData.eqv e (.int x))))) μ
      | none => False)
  rw [allD_dats]
  have e : (inz xs).any (fun e => PyData.eqv e (.int x)) = inI x xs := by
    unfold inI inz
    rw [List.any_map]
    congr 1
  refine ⟨rfl, ?_, ?_⟩
  · unfold inz
    rw [List.all_map]
    simp [flatD]
  · rw [e]
    exact hp
def d_first_apart_is_goal : DSp := fun ts μ P _ => ∃ (L : List Nat) (R : Rows) (E : List Nat) (L' : List Nat) (R' : Rows) (E' : List Nat) (s t : Int), ts = [nT (prN s t), .dat (tabD L R E), .dat (tabD L' R' E')] ∧ μ = [] ∧ P (.dat (.bool (goN E E' (prN s t)))) []
theorem p_first_apart_is_goal (ts : List T) (μ : Mu) (PT : KT) (PX : KX) (h : d_first_apart_is_goal ts μ PT PX) : w_first_apart_is_goal (DEof μ.length PT PX) (startE 3 ts) μ := by
  obtain ⟨L, R, E, L', R', E', s, t, rfl, rfl, hP⟩ := h
  have i0 : ∀ (μ : Mu) (P : KT), oIx (.dat (prD s t)) (.dat (.int 0)) μ P ↔ P (.dat (.int s)) μ := fun μ P => by simp [prD, DE.px, wSeq, wIfS, wB, wOp, wVar, wC, startE, asB, nm_dat, nm, oI, oIx, oIxQ, oIxS, rdQ, rdL, rdT, wAsg, wgName, wgSub, oSetL, wRet, wRetN, wNext, wDrop, wCall, wCB, wPar, wBM, tyT, wSl, wPart, wNoPart, wgTup, wgCons, wgNil, wCons, wNil, cInt, itR, itT, itS, itL, wiR1, wiR2, wiT, wiS, wiL, wLc_eq, wFor_eq, wYes, wipeE, oAdd_int, oEqA_int', oEqA_str', oNeA_str', onL, atI, ixN, CTrue, gGt, gMul, gMod, gPow, gDiv, gSub, gLt, gLe, gGe, gAdd, gNeg, gMax, gMin, gAbs, cI1, cI2, wUn, uI, wIf, wTru, asTru, truT, wNot, wAnd, wOr, wAndV, wOrV, wNotV, wLst, wTup, mkL, mkT, allD, nm]
  have i1 : ∀ (μ : Mu) (P : KT), oIx (.dat (prD s t)) (.dat (.int 1)) μ P ↔ P (.dat (.int t)) μ := fun μ P => by simp [prD, DE.px, wSeq, wIfS, wB, wOp, wVar, wC, startE, asB, nm_dat, nm, oI, oIx, oIxQ, oIxS, rdQ, rdL, rdT, wAsg, wgName, wgSub, oSetL, wRet, wRetN, wNext, wDrop, wCall, wCB, wPar, wBM, tyT, wSl, wPart, wNoPart, wgTup, wgCons, wgNil, wCons, wNil, cInt, itR, itT, itS, itL, wiR1, wiR2, wiT, wiS, wiL, wLc_eq, wFor_eq, wYes, wipeE, oAdd_int, oEqA_int', oEqA_str', oNeA_str', onL, atI, ixN, CTrue, gGt, gMul, gMod, gPow, gDiv, gSub, gLt, gLe, gGe, gAdd, gNeg, gMax, gMin, gAbs, cI1, cI2, wUn, uI, wIf, wTru, asTru, truT, wNot, wAnd, wOr, wAndV, wOrV, wNotV, wLst, wTup, mkL, mkT, allD, nm]
  show w_first_apart_is_goal (DEof 0 PT PX) [some (.dat (prD s t)), some (.dat (tabD L R E)), some (.dat (tabD L' R' E'))] []
  simp only [w_first_apart_is_goal, wRet, wOp, wVar, wC, List.getElem?_cons_zero, List.getElem?_cons_succ]
  rw [i0, oIxS2]
  refine oIn_i ?_
  rw [i1, oIxS2]
  refine oIn_i ?_
  refine oNeA_dd (d := .bool (inI s E)) (e := .bool (inI t E')) (toD_dat _ _ _) (toD_dat _ _ _) (by rfl) (by rfl) ?_
  have e : (!PyData.eqv (.bool (inI s E)) (.bool (inI t E'))) = goN E E' (prN s t) := by
    simp only [PyData.eqv, goN]
    cases inI s E <;> cases inI t E' <;> rfl
  rw [e]
  exact end0 hP
end DL
/-! FT6: apart. -/
namespace DL
open PySem PySem.Spec L2
open Tb (Rows Gt Lq)
open Ft (First Acc_ rs rs_snoc Ov ov_snoc first_iff)
theorem sig_ok {l : List Nat} (hlow : Low l) (hl : l.length < 1000) {w : WpE} {env : En} {μ μ1 : Mu} {P : KT} {PX : KX} (hw : ∀ Q : KT, Q (.dat (.str (tz l))) μ1 → w env μ Q PX) (hP : P (.dat (.str (tz (picsL l)))) (μ1 ++ [.lst ((picsL l).map fun c => T.dat (.str (tz [c])))])) :
    wBM "str" mJoin (wC (.str "")) (wCons (wSortSig w) wNil) env μ P PX := by
  have hs := sizeLine_ge
  simp only [wBM, wC, wCons, wNil, wSortSig]
  refine ⟨by simp [tyT, nm], ?_⟩
  refine hw _ ?_
  refine ⟨by simp [tz]; omega, fun ys nd hm hs => ?_⟩
  have es : signsS (tz l) = l.map fun c => tz [c] := by
    unfold signsS
    have e : (tz l).cps.toList = l := by simp [tz]
    rw [e]
  rw [es] at hm
  rw [sorted_pics hlow nd hm hs, List.map_map]
  have pl : (picsL l).length ≤ 26 := List.length_filter_le _ _
  refine mJoin_ok (a := tz []) (by rw [← empty_eq]; rfl) (xs := (picsL l).map fun c => T.dat (.str (tz [c]))) (rdQ_live at_end) (strsT_ones _ _) ?_ ?_
  · have : (((picsL l).map fun c => tz [c]).map fun z : Str => z.length).sum ≤ ((picsL l).map fun c => tz [c]).length * 1 := sum_le fun x hx => by
      obtain ⟨c, _, rfl⟩ := List.mem_map.mp hx
      exact Nat.le_refl 1
    rw [List.length_map] at this ⊢
    rw [tz_len]
    show _ + _ * 0 ≤ _
    omega
  · rw [join_chars]
    exact hP
theorem sem_apart {L E : List Nat} {R : Rows} {L' E' : List Nat} {R' : Rows} (ok : Tok L R E) (ok' : Tok L' R' E') :
    Sem2 (picsL (L ++ L')) (unN R.length R'.length) (stN L R L' R') (goN E E') (Dn 4 d_first_apart_steps) [T.dat (tabD L R E), T.dat (tabD L' R' E')] (Dn 3 d_first_apart_is_goal) [T.dat (tabD L R E), T.dat (tabD L' R' E')] := by
  have low : Low (L ++ L') := fun c m => (List.mem_append.mp m).elim (ok.low c) (ok'.low c)
  have r1 := ok.rl
  have r2 := ok'.rl
  have hu : (unN R.length R'.length).length ≤ 3721 := by
    rw [unN_len]
    exact Nat.mul_le_mul (show R.length + 1 ≤ 61 by omega) (show R'.length + 1 ≤ 61 by omega)
  have stt : ∀ {n : Nat} {Q : Rows} {s : Int}, Q.length = n → -1 ≤ s → s < n → Stt Q s := fun {n Q s} e h1 h2 => by
    by_cases z : s = -1
    · exact .inl z
    · exact .inr ⟨by omega, by omega⟩
  refine ⟨picsL_sorted _, fun c m => ?_, Nat.le_trans (List.length_filter_le _ _) (by decide), fun v hv c _ x hx => ?_, by omega, fun v hv => ?_, fun v hv c _ => ?_, fun v hv c _ μ P PX hP => ?_, fun v hv μ P PX hP => ?_⟩
  · have := low c ((picsL_mem low).mp m)
    unfold DL.low at this
    have : 97 ≤ c ∧ c < 123 := by simpa using this
    omega
  · obtain ⟨s, t, rfl, h1, h2, h3, h4⟩ := unN_mem.mp hv
    unfold stN at hx
    simp only [] at hx
    split at hx
    · simp at hx
    · rw [List.mem_singleton.mp hx]
      refine unN_mem.mpr ⟨_, _, rfl, ?_⟩
      have a1 := nx_stt ok (stt rfl h1 h2) c
      have a2 := nx_stt ok' (stt rfl h3 h4) c
      unfold Stt at a1 a2
      omega
  · obtain ⟨s, t, rfl, h1, h2, h3, h4⟩ := unN_mem.mp hv
    refine ⟨by simp, fun k m => ?_⟩
    rcases List.mem_cons.mp m with e | e
    · exact .inl ⟨s, e, by omega⟩
    · exact .inl ⟨t, List.mem_singleton.mp e, by omega⟩
  · obtain ⟨s, t, rfl, _⟩ := unN_mem.mp hv
    unfold stN
    simp only []
    split <;> simp
  · obtain ⟨s, t, rfl, h1, h2, h3, h4⟩ := unN_mem.mp hv
    refine call0 (ds := [ndD (prN s t), .str (tz [c]), tabD L R E, tabD L' R' E']) ⟨rfl, L, R, E, L', R', E', s, t, c, rfl, rfl, ok, ok', stt rfl h1 h2, stt rfl h3 h4, ?_⟩
    have e1 : ([O.lst ((stN L R L' R' (prN s t) c).map nT)].map (O.ren (gV [] μ))) = [O.lst ((stN L R L' R' (prN s t) c).map nT)] := by
      rw [List.map_cons, List.map_nil]
      show [O.lst (((stN L R L' R' (prN s t) c).map nT).map (T.ren (gV [] μ)))] = _
      rw [List.map_map]
      rfl
    show P (.loc (gV [] μ 0)) (μ ++ ([O.lst ((stN L R L' R' (prN s t) c).map nT)].map (O.ren (gV [] μ))))
    rw [e1, gV_nil, Nat.add_zero]
    exact hP
  · obtain ⟨s, t, rfl, h1, h2, h3, h4⟩ := unN_mem.mp hv
    exact call0d (ds := [ndD (prN s t), tabD L R E, tabD L' R' E']) fun PT PX' k _ _ => ⟨rfl, L, R, E, L', R', E', s, t, rfl, rfl, k _ hP⟩
/-- that just one of two tables holds a text -/
abbrev Apt (L : List Nat) (R : Rows) (E : List Nat) (L' : List Nat) (R' : Rows) (E' : List Nat) (w : List Nat) : Prop := inT L R E w ≠ inT L' R' E' w
def w_first_apart_1 (po2 : Addr → Addr → Hp → Prop) (po3 : Addr → Addr → Hp → Prop) : WpS := (wRet (wCallC [⟨2, [0, 1], 8, 2, Dn 4 d_first_apart_steps, po2⟩, ⟨3, [0, 1], 8, 1, Dn 3 d_first_apart_is_goal, po3⟩] (fun pn => Dn 4 (d_first_text pn)) (wCons (wLst (wCons (wTup (wCons (wC (.int 0)) (wCons (wC (.int 0)) wNil))) wNil)) (wCons (wVar 2) (wCons (wBM "str" mJoin (wC (.str "")) (wCons (wSortSig (wOp oAdd (wOp oIx (wVar 0) (wC (.int 0))) (wOp oIx (wVar 1) (wC (.int 0))))) wNil)) (wCons (wVar 3) wNil))))))
def w_first_apart_2 (po2 : Addr → Addr → Hp → Prop) (po3 : Addr → Addr → Hp → Prop) : WpS := (wSeq (wNdef 3 po3)
    (w_first_apart_1 po2 po3))
def w_first_apart (po2 : Addr → Addr → Hp → Prop) (po3 : Addr → Addr → Hp → Prop) : WpS := (wSeq (wNdef 2 po2)
    (w_first_apart_2 po2 po3))
def d_first_apart : DSp := fun ts μ P _ => ∃ (L : List Nat) (R : Rows) (E : List Nat) (L' : List Nat) (R' : Rows) (E' : List Nat), ts = [.dat (tabD L R E), .dat (tabD L' R' E')] ∧ μ = [] ∧ Tok L R E ∧ Tok L' R' E' ∧ ∀ r, First (picsL (L ++ L')) (Apt L R E L' R' E') r → P (.dat (resD r)) []
theorem p_first_apart (po2 po3 : Addr → Addr → Hp → Prop) (ts : List T) (μ : Mu) (PT : KT) (PX : KX) (h : d_first_apart ts μ PT PX) : w_first_apart po2 po3 (DEof μ.length PT PX) (startE 4 ts) μ := by
  obtain ⟨L, R, E, L', R', E', rfl, rfl, ok, ok', hP⟩ := h
  have hsz := sizeLine_ge
  have low : Low (L ++ L') := fun c m => (List.mem_append.mp m).elim (ok.low c) (ok'.low c)
  have l1 := ok.sg.2.2
  have l2 := ok'.sg.2.2
  show w_first_apart po2 po3 (DEof 0 PT PX) [some (.dat (tabD L R E)), some (.dat (tabD L' R' E')), none, none] []
  simp only [w_first_apart, wSeq, wNdef]
  intro f1 c1
  simp only [w_first_apart_2, wSeq, wNdef, List.set_cons_succ, List.set_cons_zero]
  intro f2 c2
  simp only [w_first_apart_1, wRet, wCallC, wCons, wNil, wLst, wTup, wC, wVar, mkL, List.set_cons_succ, List.set_cons_zero, List.getElem?_cons_zero, List.getElem?_cons_succ]
  refine ⟨by simp; omega, ?_⟩
  refine (mkT_2 _ _ _ _).mpr ?_
  refine ⟨by simp; omega, ?_⟩
  refine sig_ok (l := L ++ L') (μ1 := [O.lst [T.dat (prD 0 0)]]) low (by simp; omega) (fun Q q => ?_) ?_
  · simp only [wOp, wVar, wC, List.getElem?_cons_zero, List.getElem?_cons_succ]
    rw [oIxS0, oIxS0]
    refine oAdd_str _ _ _ _ (by rw [tz_len, tz_len]; omega) ?_
    rw [tz_cat]
    exact q
  obtain ⟨μ1, hμ1⟩ : ∃ μ1, μ1 = [O.lst [T.dat (prD 0 0)]] ++ [O.lst ((picsL (L ++ L')).map fun c => T.dat (.str (tz [c])))] := ⟨_, rfl⟩
  rw [← hμ1]
  have h0 : μ1[0]? = some (.lst ([prN 0 0].map nT)) := by rw [hμ1]; rfl
  intro pn
  refine ⟨f1, c1, rfl, [T.dat (tabD L R E), T.dat (tabD L' R' E')], rfl, fun t m => ?_, f2, c2, rfl, [T.dat (tabD L R E), T.dat (tabD L' R' E')], rfl, fun t m => ?_, [.loc 0, .fn f1 (pn 8 2 f1 (Dn 4 d_first_apart_steps) [T.dat (tabD L R E), T.dat (tabD L' R' E')]), T.dat (.str (tz (picsL (L ++ L')))), .fn f2 (pn 8 1 f2 (Dn 3 d_first_apart_is_goal) [T.dat (tabD L R E), T.dat (tabD L' R' E')])], ?_, ?_⟩
  · simp at m
    rcases m with rfl | rfl <;> trivial
  · simp at m
    rcases m with rfl | rfl <;> trivial
  · exact .cons (.inl rfl) (.cons (.inr ⟨2, f1, _, _, rfl, rfl, rfl⟩) (.cons (.inl rfl) (.cons (.inr ⟨3, f2, _, _, rfl, rfl, rfl⟩) .nil)))
  · refine callLV (V := []) (args0 := [T.dat (.list ([prN 0 0].map ndD)), .fn f1 (pn 8 2 f1 (Dn 4 d_first_apart_steps) [T.dat (tabD L R E), T.dat (tabD L' R' E')]), T.dat (.str (tz (picsL (L ++ L')))), .fn f2 (pn 8 1 f2 (Dn 3 d_first_apart_is_goal) [T.dat (tabD L R E), T.dat (tabD L' R' E')])]) (view_nil μ1)
      (.cons (ba_nil (toD_lst h0 (toDs_nT _ _ _))) (.cons (.inl rfl) (.cons (.inl rfl) (.cons (.inl rfl) .nil)))) fun PT' PX' k1 k2 => ?_
    refine ⟨rfl, [prN 0 0], picsL (L ++ L'), unN R.length R'.length, stN L R L' R', goN E E', f1, f2, _, _, _, _, rfl, rfl, fun v m => ?_, by simp, sem_apart ok ok', fun r hr => ?_⟩
    · rw [List.mem_singleton] at m
      subst m
      exact unN_mem.mpr ⟨0, 0, rfl, by omega, by have := ok.gt.ne; omega, by omega, by have := ok'.gt.ne; omega⟩
    · refine k1 _ _ ?_ (fun o m => by simp at m) ?_
      · cases r <;> trivial
      · refine end0 ?_
        exact hP r (first_iff (fun w _ => acc_pair w) hr)
def w_apart_1 : WpS := (wRet (wCall (Dn 2 d_first_apart) (wCons (wVar 0) (wCons (wVar 1) wNil))))
def w_apart_2 (cE : Nat → Addr) : WpS := (wSeq (wDrop (wCall (Dn 1 (d_check_table cE)) (wCons (wVar 1) wNil)))
    w_apart_1)
def w_apart (cE : Nat → Addr) : WpS := (wSeq (wDrop (wCall (Dn 1 (d_check_table cE)) (wCons (wVar 0) wNil)))
    (w_apart_2 cE))
def d_apart (cE : Nat → Addr) : DSp := fun ts μ P _ => ∃ (L : List Nat) (R : Rows) (E : List Nat) (L' : List Nat) (R' : Rows) (E' : List Nat), ts = [.dat (tabD L R E), .dat (tabD L' R' E')] ∧ μ = [] ∧ Tok L R E ∧ Tok L' R' E' ∧ ∀ r, First (picsL (L ++ L')) (Apt L R E L' R' E') r → P (.dat (resD r)) []
theorem c_first_apart {t u : T} {L E : List Nat} {R : Rows} {L' E' : List Nat} {R' : Rows} {μ : Mu} {P : KT} {PX : KX} (h : toD 8 μ t = some (tabD L R E)) (h' : toD 8 μ u = some (tabD L' R' E')) (ok : Tok L R E) (ok' : Tok L' R' E') (hP : ∀ r, First (picsL (L ++ L')) (Apt L R E L' R' E') r → P (.dat (resD r)) μ) :
    callD (Dn 2 d_first_apart) [t, u] μ P PX :=
  callL0 (ds := [tabD L R E, tabD L' R' E']) (by simp [toDs, h, h']) fun PT PX' k _ => ⟨rfl, L, R, E, L', R', E', rfl, rfl, ok, ok', fun r hr => k _ _ (by cases r <;> trivial) (fun o m => by simp at m) (by simpa [T.ren] using hP r hr)⟩
theorem p_apart (cE : Nat → Addr) (ts : List T) (μ : Mu) (PT : KT) (PX : KX) (h : d_apart cE ts μ PT PX) : w_apart cE (DEof μ.length PT PX) (startE 2 ts) μ := by
  obtain ⟨L, R, E, L', R', E', rfl, rfl, ok, ok', hP⟩ := h
  show w_apart cE (DEof 0 PT PX) [some (.dat (tabD L R E)), some (.dat (tabD L' R' E'))] []
  simp only [w_apart, wSeq, wDrop, wCall, wCons, wNil, wVar, List.getElem?_cons_zero, List.getElem?_cons_succ]
  refine c_check_table (toD_dat _ _ _) ok ?_
  simp only [w_apart_2, wSeq, wDrop, wCall, wCons, wNil, wVar, List.getElem?_cons_zero, List.getElem?_cons_succ]
  refine c_check_table (toD_dat _ _ _) ok' ?_
  simp only [w_apart_1, wRet, wCall, wCons, wNil, wVar, List.getElem?_cons_zero, List.getElem?_cons_succ]
  exact c_first_apart (toD_dat _ _ _) (toD_dat _ _ _) ok ok' fun r hr => end0 (hP r hr)
theorem c_apart {cE : Nat → Addr} {t u : T} {L E : List Nat} {R : Rows} {L' E' : List Nat} {R' : Rows} {μ : Mu} {P : KT} {PX : KX} (h : toD 8 μ t = some (tabD L R E)) (h' : toD 8 μ u = some (tabD L' R' E')) (ok : Tok L R E) (ok' : Tok L' R' E') (hP : ∀ r, First (picsL (L ++ L')) (Apt L R E L' R' E') r → P (.dat (resD r)) μ) :
    callD (Dn 2 (d_apart cE)) [t, u] μ P PX :=
  callL0 (ds := [tabD L R E, tabD L' R' E']) (by simp [toDs, h, h']) fun PT PX' k _ => ⟨rfl, L, R, E, L', R', E', rfl, rfl, ok, ok', fun r hr => k _ _ (by cases r <;> trivial) (fun o m => by simp at m) (by simpa [T.ren] using hP r hr)⟩
end DL
/-! FQ1: the first text by a queue of nodes, one node a text, in plain lists. -/
namespace Ft
section
variable {α : Type} [DecidableEq α]
def rn (step : α → Nat → α) (s0 : α) (w : List Nat) : α := w.foldl step s0
theorem rn_snoc_ (step : α → Nat → α) (s0 : α) (w : List Nat) (c : Nat) : rn step s0 (w ++ [c]) = step (rn step s0 w) c := by
  unfold rn; rw [List.foldl_append]; rfl
/-- w is the first text to its node -/
def Fst (step : α → Nat → α) (s0 : α) (L w : List Nat) : Prop := Ov L w ∧ ∀ u, Ov L u → Slt u w → rn step s0 u ≠ rn step s0 w
variable {step : α → Nat → α} {s0 : α} {L : List Nat} {goal : α → Bool}
theorem fst_some {w : List Nat} : Ov L w → ∃ u, Fst step s0 L u ∧ rn step s0 u = rn step s0 w ∧ (u = w ∨ Slt u w) := by
  have aw := slt_acc w
  induction aw with
  | intro w _ ih =>
    intro o
    by_cases c : ∃ u, Ov L u ∧ Slt u w ∧ rn step s0 u = rn step s0 w
    · obtain ⟨u, ou, su, mu⟩ := c
      obtain ⟨x, hx, ex, e⟩ := ih u su ou
      exact ⟨x, hx, ex.trans mu, .inr (e.elim (fun z => z ▸ su) fun z => slt_trans z su)⟩
    · exact ⟨w, ⟨o, fun u ou su mu => c ⟨u, ou, su, mu⟩⟩, rfl, .inl rfl⟩
theorem fst_pre {p : List Nat} {d : Nat} (h : Fst step s0 L (p ++ [d])) : Fst step s0 L p ∧ d ∈ L := by
  obtain ⟨op, od⟩ := ov_snoc.mp h.1
  refine ⟨⟨op, fun u ou su e => h.2 (u ++ [d]) (ov_snoc.mpr ⟨ou, od⟩) (slt_snoc.mpr (.inl su)) ?_⟩, od⟩
  rw [rn_snoc_, rn_snoc_, e]
theorem fst_eq {u w : List Nat} (h : Fst step s0 L u) (k : Fst step s0 L w) (e : rn step s0 u = rn step s0 w) : u = w := by
  rcases slt_tri u w with z | z | z
  · exact absurd e (k.2 u h.1 z)
  · exact z
  · exact absurd e.symm (h.2 w k.1 z)
theorem slt_pre (p : List Nat) (c : Nat) : Slt p (p ++ [c]) := .inl (by simp)
/-- the queue: before the k-th node is looked at, its letters in `done` being through -/
structure Qs (step : α → Nat → α) (s0 : α) (L : List Nat) (k : Nat) (done : List Nat) (W : List (List Nat)) : Prop where
  fst : ∀ w ∈ W, Fst step s0 L w
  asc : W.Pairwise Slt
  zero : W[0]? = some []
  cl : ∀ i w, i < k → W[i]? = some w → ∀ c ∈ L, ∃ u ∈ W, rn step s0 u = rn step s0 (w ++ [c])
  cur : ∀ w, W[k]? = some w → ∀ c ∈ done, ∃ u ∈ W, rn step s0 u = rn step s0 (w ++ [c])
  par : ∀ w ∈ W, w ≠ [] → ∃ p d, w = p ++ [d] ∧ ((∃ i, i < k ∧ W[i]? = some p) ∨ (W[k]? = some p ∧ d ∈ done))
variable {k : Nat} {done : List Nat} {W : List (List Nat)}
theorem Qs.lt (h : Qs step s0 L k done W) {i j : Nat} {a b : List Nat} (ha : W[i]? = some a) (hb : W[j]? = some b) (s : Slt a b) : i < j := by
  obtain ⟨li, ei⟩ := List.getElem?_eq_some_iff.mp ha
  obtain ⟨lj, ej⟩ := List.getElem?_eq_some_iff.mp hb
  have key := List.pairwise_iff_getElem.mp h.asc
  rcases Nat.lt_trichotomy i j with z | z | z
  · exact z
  · subst z
    rw [ha] at hb
    cases hb
    exact absurd s (slt_irrefl _)
  · have := key j i lj li z
    rw [ei, ej] at this
    exact absurd (slt_trans s this) (slt_irrefl _)
theorem snoc_of {w : List Nat} (h : w ≠ []) : ∃ p d, w = p ++ [d] := by
  rcases List.eq_nil_or_concat w with z | ⟨p, d, z⟩
  · exact absurd z h
  · exact ⟨p, d, by simpa using z⟩
/-- all first texts that come ahead of the k-th stand ahead of it -/
theorem Qs.early (h : Qs step s0 L k done W) {wk : List Nat} (hk : W[k]? = some wk) : ∀ (n : Nat) (w : List Nat), w.length = n → Fst step s0 L w → Slt w wk → ∃ i, i < k ∧ W[i]? = some w
  | 0, w, hn, hw, s => by
    have e : w = [] := List.length_eq_zero_iff.mp hn
    subst e
    exact ⟨0, h.lt h.zero hk s, h.zero⟩
  | n + 1, w, hn, hw, s => by
    obtain ⟨p, d, rfl⟩ := snoc_of (w := w) (fun z => by rw [z] at hn; simp at hn)
    obtain ⟨fp, hd⟩ := fst_pre hw
    obtain ⟨i, hi, ei⟩ := h.early hk n p (by simpa using hn) fp (slt_trans (slt_pre p d) s)
    obtain ⟨u, mu, eu⟩ := h.cl i p hi ei d hd
    have e := fst_eq (h.fst u mu) hw eu
    subst e
    obtain ⟨j, hj, ej⟩ := List.mem_iff_getElem.mp mu
    have ej' : W[j]? = some (p ++ [d]) := by rw [List.getElem?_eq_getElem hj, ej]
    exact ⟨j, h.lt ej' hk s, ej'⟩
theorem Qs.start : Qs step s0 L 0 [] [[]] := by
  refine ⟨fun w m => ?_, by simp, rfl, fun i w hi => absurd hi (Nat.not_lt_zero _), fun w _ c hc => by simp at hc, fun w m n => absurd (List.mem_singleton.mp m) n⟩
  rw [List.mem_singleton] at m
  subst m
  exact ⟨fun c m => by simp at m, fun u _ s => (by
    rcases s with z | ⟨_, z⟩
    · exact absurd z (Nat.not_lt_zero _)
    · exact absurd z (List.not_lt_nil u))⟩
theorem Qs.old (h : Qs step s0 L k done W) {wk : List Nat} (hk : W[k]? = some wk) {c : Nat} (m : ∃ u ∈ W, rn step s0 u = rn step s0 (wk ++ [c])) : Qs step s0 L k (done ++ [c]) W :=
  ⟨h.fst, h.asc, h.zero, h.cl, fun w hw d hd => by
    rcases List.mem_append.mp hd with z | z
    · exact h.cur w hw d z
    · rw [List.mem_singleton.mp z]
      rw [hk] at hw
      cases hw
      exact m, fun w mw n => by
    obtain ⟨p, d, e, z⟩ := h.par w mw n
    exact ⟨p, d, e, z.imp id fun z => ⟨z.1, List.mem_append_left _ z.2⟩⟩⟩
theorem Qs.new (h : Qs step s0 L k done W) {wk : List Nat} (hk : W[k]? = some wk) {c : Nat} (hc : c ∈ L) (up : ∀ d ∈ done, d < c) (dn : ∀ d ∈ L, d < c → d ∈ done) (m : ¬ ∃ u ∈ W, rn step s0 u = rn step s0 (wk ++ [c])) :
    Qs step s0 L k (done ++ [c]) (W ++ [wk ++ [c]]) := by
  have lk : k < W.length := (List.getElem?_eq_some_iff.mp hk).1
  have at_ : ∀ {i w}, W[i]? = some w → (W ++ [wk ++ [c]])[i]? = some w := fun {i w} e => by
    rw [List.getElem?_append_left (List.getElem?_eq_some_iff.mp e).1]
    exact e
  have back : ∀ {i w}, i ≤ k → (W ++ [wk ++ [c]])[i]? = some w → W[i]? = some w := fun {i w} le e => by
    rw [List.getElem?_append_left (by omega)] at e
    exact e
  have fk := h.fst wk (List.mem_of_getElem? hk)
  refine ⟨fun w mw => ?_, ?_, at_ h.zero, fun i w hi e d hd => ?_, fun w e d hd => ?_, fun w mw n => ?_⟩
  · rcases List.mem_append.mp mw with z | z
    · exact h.fst w z
    · rw [List.mem_singleton.mp z]
      refine ⟨ov_snoc.mpr ⟨fk.1, hc⟩, fun x ox sx ex => m ?_⟩
      obtain ⟨q, fq, eq, oq⟩ := fst_some (step := step) (s0 := s0) ox
      have sq : Slt q (wk ++ [c]) := oq.elim (fun z => z ▸ sx) fun z => slt_trans z sx
      by_cases e0 : q = []
      · subst e0
        exact ⟨[], List.mem_of_getElem? h.zero, eq.trans ex⟩
      · obtain ⟨p, d, rfl⟩ := snoc_of e0
        obtain ⟨fp, hd⟩ := fst_pre fq
        rcases slt_snoc.mp sq with s | ⟨rfl, s⟩
        · obtain ⟨i, hi, ei⟩ := h.early hk _ p rfl fp s
          obtain ⟨u, mu, eu⟩ := h.cl i p hi ei d hd
          exact ⟨u, mu, eu.trans (eq.trans ex)⟩
        · obtain ⟨u, mu, eu⟩ := h.cur p hk d (dn d hd s)
          exact ⟨u, mu, eu.trans (eq.trans ex)⟩
  · rw [List.pairwise_append]
    refine ⟨h.asc, by simp, fun a ma b mb => ?_⟩
    rw [List.mem_singleton.mp mb]
    by_cases e0 : a = []
    · subst e0
      exact .inl (by simp)
    · obtain ⟨p, d, rfl, z⟩ := h.par a ma e0
      refine slt_snoc.mpr ?_
      rcases z with ⟨i, hi, ei⟩ | ⟨e, hd⟩
      · obtain ⟨li, e1⟩ := List.getElem?_eq_some_iff.mp ei
        obtain ⟨lj, e2⟩ := List.getElem?_eq_some_iff.mp hk
        have := List.pairwise_iff_getElem.mp h.asc i k li lj hi
        rw [e1, e2] at this
        exact .inl this
      · rw [hk] at e
        cases e
        exact .inr ⟨rfl, up d hd⟩
  · obtain ⟨u, mu, eu⟩ := h.cl i w hi (back (by omega) e) d hd
    exact ⟨u, List.mem_append_left _ mu, eu⟩
  · have e := back (Nat.le_refl _) e
    rcases List.mem_append.mp hd with z | z
    · obtain ⟨u, mu, eu⟩ := h.cur w e d z
      exact ⟨u, List.mem_append_left _ mu, eu⟩
    · rw [List.mem_singleton.mp z]
      rw [hk] at e
      cases e
      exact ⟨wk ++ [c], by simp, rfl⟩
  · rcases List.mem_append.mp mw with z | z
    · obtain ⟨p, d, e, y⟩ := h.par w z n
      exact ⟨p, d, e, y.imp (fun ⟨i, hi, ei⟩ => ⟨i, hi, at_ ei⟩) fun ⟨ei, hd⟩ => ⟨at_ ei, List.mem_append_left _ hd⟩⟩
    · rw [List.mem_singleton.mp z]
      exact ⟨wk, c, rfl, .inr ⟨at_ hk, by simp⟩⟩
theorem Qs.next (h : Qs step s0 L k done W) (all : ∀ c ∈ L, c ∈ done) : Qs step s0 L (k + 1) [] W :=
  ⟨h.fst, h.asc, h.zero, fun i w hi e c hc => by
    by_cases z : i < k
    · exact h.cl i w z e c hc
    · have : i = k := by omega
      subst this
      exact h.cur w e c (all c hc), fun w _ c hc => by simp at hc, fun w m n => by
    obtain ⟨p, d, e, z⟩ := h.par w m n
    refine ⟨p, d, e, .inl ?_⟩
    rcases z with ⟨i, hi, ei⟩ | ⟨ei, _⟩
    · exact ⟨i, by omega, ei⟩
    · exact ⟨k, by omega, ei⟩⟩
theorem Qs.hit (h : Qs step s0 L k done W) (ng : ∀ i w, i < k → W[i]? = some w → goal (rn step s0 w) = false) {wk : List Nat} (hk : W[k]? = some wk) (g : goal (rn step s0 wk) = true) : First L (fun w => goal (rn step s0 w) = true) (some wk) := by
  have fk := h.fst wk (List.mem_of_getElem? hk)
  refine ⟨fk.1, g, fun u ou au su => ?_⟩
  obtain ⟨q, fq, eq, oq⟩ := fst_some (step := step) (s0 := s0) ou
  obtain ⟨i, hi, ei⟩ := h.early hk _ q rfl fq (oq.elim (fun z => z ▸ su) fun z => slt_trans z su)
  have au : goal (rn step s0 u) = true := au
  rw [← eq, ng i q hi ei] at au
  cases au
theorem Qs.stop (h : Qs step s0 L k done W) (ng : ∀ i w, i < k → W[i]? = some w → goal (rn step s0 w) = false) (hk : W.length ≤ k) : First L (fun w => goal (rn step s0 w) = true) none := by
  have all : ∀ (n : Nat) (w : List Nat), w.length = n → Fst step s0 L w → ∃ i, i < k ∧ W[i]? = some w := fun n => by
    induction n with
    | zero =>
      intro w hn _
      rw [List.length_eq_zero_iff.mp hn]
      exact ⟨0, Nat.lt_of_lt_of_le (List.getElem?_eq_some_iff.mp h.zero).1 hk, h.zero⟩
    | succ n ih =>
      intro w hn hw
      obtain ⟨p, d, rfl⟩ := snoc_of (w := w) (fun z => by rw [z] at hn; simp at hn)
      obtain ⟨fp, hd⟩ := fst_pre hw
      obtain ⟨i, hi, ei⟩ := ih p (by simpa using hn) fp
      obtain ⟨u, mu, eu⟩ := h.cl i p hi ei d hd
      have e := fst_eq (h.fst u mu) hw eu
      subst e
      obtain ⟨j, hj, ej⟩ := List.mem_iff_getElem.mp mu
      exact ⟨j, Nat.lt_of_lt_of_le hj hk, by rw [List.getElem?_eq_getElem hj, ej]⟩
  intro w ow aw
  obtain ⟨q, fq, eq, _⟩ := fst_some (step := step) (s0 := s0) ow
  obtain ⟨i, hi, ei⟩ := all _ q rfl fq
  have aw : goal (rn step s0 w) = true := aw
  rw [← eq, ng i q hi ei] at aw
  cases aw
theorem Qs.nd (h : Qs step s0 L k done W) : (W.map (rn step s0)).Nodup := by
  rw [List.nodup_iff_pairwise_ne, List.pairwise_map]
  refine (List.Pairwise.and_mem.mp h.asc).imp fun {a b} ⟨ma, mb, s⟩ => ?_
  exact (h.fst b mb).2 a (h.fst a ma).1 s
end
end Ft
/-! FQ2: the law's own first text: a queue of pairs of states. -/
namespace DL
open PySem PySem.Spec L2 Ft
open Tb (Rows)
def w__law_qt_next_1 : WpS := (wRet (wOp oIx (wOp oIx (wOp oIx (wVar 0) (wC (.int 1))) (wVar 1)) (wVar 3)))
def w__law_qt_next_2 : WpS := (wSeq (wIfS (wOr (wB (wOp (oI CTrue gLt) (wVar 1) (wC (.int 0)))) (wB (wOp (oI CTrue gLt) (wVar 3) (wC (.int 0))))) (wRet (wUn (uI gNeg) (wC (.int 1)))) wNext)
    w__law_qt_next_1)
def w__law_qt_next : WpS := (wSeq (wAsg (wBM "str" (mS1 CT2 gFind) (wOp oIx (wVar 0) (wC (.int 0))) (wCons (wVar 2) wNil)) (wgName 3))
    w__law_qt_next_2)
def d__law_qt_next : DSp := fun ts μ P _ => ∃ (L : List Nat) (R : Rows) (E : List Nat) (s : Int) (c : Nat), ts = [.dat (tabD L R E), .dat (.int s), .dat (.str (tz [c]))] ∧ μ = [] ∧ Tok L R E ∧ Stt R s ∧ P (.dat (.int (nxS L R s c))) []
theorem p__law_qt_next (ts : List T) (μ : Mu) (PT : KT) (PX : KX) (h : d__law_qt_next ts μ PT PX) : w__law_qt_next (DEof μ.length PT PX) (startE 4 ts) μ := by
  obtain ⟨L, R, E, s, c, rfl, rfl, ok, hs, hP⟩ := h
  have lL : L.length ≤ 26 := ok.sg.2.2
  simp only [w__law_qt_next, wSeq, wAsg, wBM, wOp, wVar, wC, wCons, wNil, wgName, startE, List.map_cons, List.map_nil, List.cons_append, List.nil_append, List.getElem?_cons_zero, List.getElem?_cons_succ]
  rw [oIxS0]
  refine ⟨by simp [tyT, nm], trivial, ?_⟩
  show w__law_qt_next_2 (DEof 0 PT PX) [some (.dat (tabD L R E)), some (.dat (.int s)), some (.dat (.str (tz [c]))), some (.dat (.int (Txt.find (tz L) (tz [c]))))] []
  rw [find_one]
  simp only [w__law_qt_next_2, wSeq, wIfS, wOr, wB, wOp, wC, wVar, oI, nm, CTrue, gLt, List.getElem?_cons_zero, List.getElem?_cons_succ]
  refine ⟨trivial, ?_⟩
  have gone : nxS L R s c = -1 → wRet (wUn (uI gNeg) (wC (.int 1))) (DEof 0 PT PX) [some (.dat (tabD L R E)), some (.dat (.int s)), some (.dat (.str (tz [c]))), some (.dat (.int (if c ∈ L then ((Tb.ix L c : Nat) : Int) else -1)))] [] := fun e => by
    simp only [wRet, wUn, wC, uI, nm, gNeg]
    refine end0 ?_
    rw [e] at hP
    exact hP
  by_cases z : s < 0
  · simp only [asB, nm, z, decide_true, if_true]
    exact gone (by unfold nxS; rw [if_pos (.inl (by rcases hs with e | ⟨e, _⟩ <;> omega))])
  · simp only [asB, nm, z, decide_false, Bool.false_eq_true, if_false]
    refine ⟨trivial, ?_⟩
    by_cases m : c ∈ L
    · have e0 : ¬ (((Tb.ix L c : Nat) : Int) < 0) := by omega
      simp only [if_pos m, e0, decide_false, Bool.false_eq_true, if_false, wNext]
      show w__law_qt_next_1 (DEof 0 PT PX) _ []
      simp only [w__law_qt_next_1, wRet, wOp, wVar, wC, List.getElem?_cons_zero, List.getElem?_cons_succ]
      have z1 : s ≠ -1 := by omega
      obtain ⟨hs1, hs2⟩ : 0 ≤ s ∧ s < R.length := hs.resolve_left z1
      obtain ⟨n, rfl⟩ : ∃ n : Nat, s = n := ⟨s.toNat, by omega⟩
      have hn : n < R.length := by omega
      obtain ⟨r1, r2, r3⟩ := Tb.row_at ok.gt hn
      rw [oIxS1]
      refine oIx_dl (i := n) (d := .list (inz (R.getD n []))) (by simp [rwD, hn]) ?_
      refine oIx_dl (i := Tb.ix L c) (d := .int ((Tb.stp R n (Tb.ix L c) : Nat) : Int)) ?_ ?_
      · have := r3 (Tb.ix L c) (Tb.ix_lt m)
        simp only [inz, List.getElem?_map, this, Option.map_some]
      · refine end0 ?_
        have e1 : nxS L R (n : Int) c = ((Tb.stp R n (Tb.ix L c) : Nat) : Int) := by
          unfold nxS
          rw [if_neg (by rintro (q | q); exact z1 q; exact q m)]
          rfl
        rw [e1] at hP
        exact hP
    · have g := gone (by unfold nxS; rw [if_pos (.inr m)])
      simp only [if_neg m] at g ⊢
      simp only [show ((-1 : Int) < 0) from by decide, decide_true, if_true]
      exact g
theorem c__law_qt_next {L E : List Nat} {R : Rows} {s : Int} {c : Nat} {μ : Mu} {P : KT} {PX : KX} (ok : Tok L R E) (hs : Stt R s) (hP : P (.dat (.int (nxS L R s c))) μ) : callD (Dn 3 d__law_qt_next) [.dat (tabD L R E), .dat (.int s), .dat (.str (tz [c]))] μ P PX :=
  call0d (ds := [tabD L R E, .int s, .str (tz [c])]) fun PT PX' h1 _ _ => ⟨rfl, L, R, E, s, c, rfl, rfl, ok, hs, h1 _ hP⟩
/-! ### the queue -/
abbrev qst (L : List Nat) (R : Rows) (L' : List Nat) (R' : Rows) (p : Int × Int) (c : Nat) : Int × Int := (nxS L R p.1 c, nxS L' R' p.2 c)
theorem rn_pair {L : List Nat} {R : Rows} {L' : List Nat} {R' : Rows} (w : List Nat) : ∀ l r : Int, rn (qst L R L' R') (l, r) w = (rnS L R l w, rnS L' R' r w) := by
  induction w with
  | nil => exact fun _ _ => rfl
  | cons c w ih => exact fun l r => ih _ _
abbrev gB (b : Bool) (E E' : List Nat) (p : Int × Int) : Bool := (inI p.1 E != inI p.2 E') && !(b && inI p.2 E')
abbrev pn2 (p : Int × Int) : Nd := prN p.1 p.2
theorem pn2_inj {p q : Int × Int} (h : pn2 p = pn2 q) : p = q := by
  obtain ⟨a, b⟩ := p
  obtain ⟨c, d⟩ := q
  simp [pn2, prN] at h
  rw [h.1, h.2]
def w__law_qt_first_1 : WpS := (wRet (wC .none))
def w__law_qt_first_2 : WpS := (wDrop (wBM "list" mAppend (wVar 7) (wCons (wOp oAdd (wOp oIx (wVar 7) (wVar 9)) (wVar 11)) wNil)))
def w__law_qt_first_3 : WpS := (wSeq (wDrop (wBM "list" mAppend (wVar 6) (wCons (wVar 12) wNil)))
    w__law_qt_first_2)
def w__law_qt_first_4 : WpS := (wIfS (wB (wOp oDNotIn (wVar 12) (wVar 8))) (wSeq (wAsg (wC (.bool true)) (wgSub (wVar 8) (wVar 12) oDSet))
    w__law_qt_first_3) wNext)
def w__law_qt_first_5 : WpS := (wSeq (wAsg (wTup (wCons (wCall (Dn 3 d__law_qt_next) (wCons (wVar 0) (wCons (wVar 3) (wCons (wVar 11) wNil)))) (wCons (wCall (Dn 3 d__law_qt_next) (wCons (wVar 1) (wCons (wVar 4) (wCons (wVar 11) wNil)))) wNil))) (wgName 12))
    w__law_qt_first_4)
def w__law_qt_first_6 : WpS := (wFor (wiA (wVar 5)) (wgName 11) w__law_qt_first_5)
def w__law_qt_first_7 : WpS := (wSeq (wIfS (wAnd (wB (wOp oNeA (wOp oIn (wVar 3) (wOp oIx (wVar 0) (wC (.int 2)))) (wVar 10))) (wNot (wAnd (wTru (wVar 2)) (wTru (wVar 10))))) (wRet (wOp oIx (wVar 7) (wVar 9))) wNext)
    w__law_qt_first_6)
def w__law_qt_first_8 : WpS := (wSeq (wAsg (wOp oIn (wVar 4) (wOp oIx (wVar 1) (wC (.int 2)))) (wgName 10))
    w__law_qt_first_7)
def w__law_qt_first_9 : WpS := (wSeq (wAsg (wOp oIx (wVar 6) (wVar 9)) (wgTup 2 (wgCons (wgName 3) (wgCons (wgName 4) wgNil))))
    w__law_qt_first_8)
def w__law_qt_first_10 : WpS := (wSeq (wIfS (wB (wOp (oI CTrue gGe) (wVar 9) (wCB cLen (wCons (wVar 6) wNil)))) (wRet (wC .none)) wNext)
    w__law_qt_first_9)
def w__law_qt_first_11 : WpS := (wSeq (wFor (wiR1 (wCons (wOp (oI CMul gMul) (wOp oAdd (wCB cLen (wCons (wOp oIx (wVar 0) (wC (.int 1))) wNil)) (wC (.int 1))) (wOp oAdd (wCB cLen (wCons (wOp oIx (wVar 1) (wC (.int 1))) wNil)) (wC (.int 1)))) wNil)) (wgName 9) w__law_qt_first_10)
    w__law_qt_first_1)
def w__law_qt_first_12 : WpS := (wSeq (wPar3 6 7 8 (wCons (wLst (wCons (wTup (wCons (wVar 3) (wCons (wVar 4) wNil))) wNil)) (wCons (wLst (wCons (wC (.str "")) wNil)) (wCons (wDispT (wTup (wCons (wVar 3) (wCons (wVar 4) wNil))) (wC (.bool true))) wNil))))
    w__law_qt_first_11)
def w__law_qt_first : WpS := (wSeq (wAsg (wBM "str" mJoin (wC (.str "")) (wCons (wSortSig (wOp oAdd (wOp oIx (wVar 0) (wC (.int 0))) (wOp oIx (wVar 1) (wC (.int 0))))) wNil)) (wgName 5))
    w__law_qt_first_12)
def AptB (b : Bool) (L : List Nat) (R : Rows) (E : List Nat) (L' : List Nat) (R' : Rows) (E' : List Nat) (l r : Int) (w : List Nat) : Prop := gB b E E' (rn (qst L R L' R') (l, r) w) = true
def d__law_qt_first : DSp := fun ts μ P _ => ∃ (L : List Nat) (R : Rows) (E : List Nat) (L' : List Nat) (R' : Rows) (E' : List Nat) (b : Bool) (l r : Int), ts = [.dat (tabD L R E), .dat (tabD L' R' E'), .dat (.bool b), .dat (.int l), .dat (.int r)] ∧ μ = [] ∧ Tok L R E ∧ Tok L' R' E' ∧ Stt R l ∧ Stt R' r ∧
  ∀ res, First (picsL (L ++ L')) (AptB b L R E L' R' E' l r) res → (∀ w, res = some w → w.length ≤ 3721) → P (.dat (resD res)) []
structure Stq (st : Int × Int → Nat → Int × Int) (s0 : Int × Int) (W : List (List Nat)) (μ : Mu) : Prop where
  p : μ[1]? = some (.lst (W.map fun w => nT (pn2 (rn st s0 w))))
  w : μ[2]? = some (.lst (W.map fun w => T.dat (.str (tz w))))
  s : μ[3]? = some (.dt (sD (W.map fun w => pn2 (rn st s0 w))))
theorem Qs.wlen {st : Int × Int → Nat → Int × Int} {s0 : Int × Int} {Lt : List Nat} {k : Nat} {done : List Nat} {W : List (List Nat)} (h : Qs st s0 Lt k done W) : ∀ (n : Nat) (w : List Nat) (i : Nat), w.length = n → W[i]? = some w → w.length ≤ i
  | 0, w, i, hn, _ => by omega
  | n + 1, w, i, hn, hi => by
    obtain ⟨p, d, rfl, z⟩ := h.par w (List.mem_of_getElem? hi) (fun z => by rw [z] at hn; simp at hn)
    obtain ⟨j, hj⟩ : ∃ j, W[j]? = some p := by
      rcases z with ⟨j, _, hj⟩ | ⟨hj, _⟩
      · exact ⟨j, hj⟩
      · exact ⟨k, hj⟩
    have lt := h.lt hj hi (slt_pre p d)
    have := Qs.wlen h n p j (by simpa using hn) hj
    simp
    omega
section
variable {L E L' E' : List Nat} {R R' : Rows} {b : Bool} {l r : Int}
theorem sign_loop (ok : Tok L R E) (ok' : Tok L' R' E') (hl : Stt R l) (hr : Stt R' r) {Lt : List Nat} (hLt : Lt = picsL (L ++ L')) {k : Nat} {W : List (List Nat)} (q : Qs (qst L R L' R') (l, r) Lt k [] W) {wk : List Nat} (hk : W[k]? = some wk)
    {a0 a3 a4 a9 a10 a11 a12 : Option T} {μ : Mu} (h : Stq (qst L R L' R') (l, r) W μ) (e3 : a3 = some (T.dat (.int (rn (qst L R L' R') (l, r) wk).1))) (e4 : a4 = some (T.dat (.int (rn (qst L R L' R') (l, r) wk).2))) (e9 : a9 = some (T.dat (.int (k : Int)))) {D : DE}
    (hD : ∀ a11' a12' μ' W', Qs (qst L R L' R') (l, r) Lt (k + 1) [] W' → (∀ i, i ≤ k → W'[i]? = W[i]?) → Stq (qst L R L' R') (l, r) W' μ' → D.nx [some (.dat (tabD L R E)), some (.dat (tabD L' R' E')), a0, a3, a4, some (.dat (.str (tz Lt))), some (.loc 1), some (.loc 2), some (.loc 3), a9, a10, a11', a12'] μ') :
    w__law_qt_first_6 D [some (.dat (tabD L R E)), some (.dat (tabD L' R' E')), a0, a3, a4, some (.dat (.str (tz Lt))), some (.loc 1), some (.loc 2), some (.loc 3), a9, a10, a11, a12] μ := by
  have sem := sem_apart ok ok'
  have hsz := sizeLine_ge
  have lU := sem.un
  have asc : Lt.Pairwise (· < ·) := by rw [hLt]; exact picsL_sorted _
  have st1 : ∀ w, Stt R (rn (qst L R L' R') (l, r) w).1 := fun w => by rw [rn_pair]; exact rn_stt ok w hl
  have st2 : ∀ w, Stt R' (rn (qst L R L' R') (l, r) w).2 := fun w => by rw [rn_pair]; exact rn_stt ok' w hr
  have inU : ∀ w, pn2 (rn (qst L R L' R') (l, r) w) ∈ unN R.length R'.length := fun w => by
    have h1 := st1 w
    have h2 := st2 w
    unfold Stt at h1 h2
    exact unN_mem.mpr ⟨_, _, rfl, by omega, by omega, by omega, by omega⟩
  have cnt : ∀ {k : Nat} {done : List Nat} {W : List (List Nat)}, Qs (qst L R L' R') (l, r) Lt k done W → W.length ≤ 100000 := fun {k done W} q => by
    have nd := q.nd
    have : (W.map fun w => pn2 (rn (qst L R L' R') (l, r) w)).Nodup := by
      rw [List.nodup_iff_pairwise_ne, List.pairwise_map] at nd ⊢
      exact nd.imp fun h e => h (pn2_inj e)
    have := nd_subN this (fun v m => by
      obtain ⟨w, _, rfl⟩ := List.mem_map.mp m
      exact inU w)
    rw [List.length_map] at this
    omega
  unfold w__law_qt_first_6
  rw [wFor_eq]
  refine wiA_S (z := tz Lt) (var_q rfl) ?_
  have en : (itS (tz Lt)).n = Lt.length := by simp [itS, tz]
  obtain ⟨Inv, hI⟩ : ∃ Inv : Nat → En → Mu → Prop, Inv = fun j env' μ' => ∃ a11' a12' W', env' = [some (.dat (tabD L R E)), some (.dat (tabD L' R' E')), a0, a3, a4, some (.dat (.str (tz Lt))), some (.loc 1), some (.loc 2), some (.loc 3), a9, a10, a11', a12'] ∧
    Qs (qst L R L' R') (l, r) Lt k (Lt.take j) W' ∧ (∀ i, i ≤ k → W'[i]? = W[i]?) ∧ Stq (qst L R L' R') (l, r) W' μ' := ⟨_, rfl⟩
  refine ⟨Inv, by rw [hI]; exact ⟨a11, a12, W, rfl, q, fun _ _ => rfl, h⟩, fun j env' μ' _ _ => trivial, fun j env' μ' hj hinv => ?_, fun env' μ' hinv => ?_⟩
  · rw [en] at hj
    rw [hI] at hinv
    obtain ⟨a11', a12', W', rfl, q', same, h'⟩ := hinv
    obtain ⟨c, hc⟩ : ∃ c, c = Lt[j] := ⟨_, rfl⟩
    refine ⟨c, by show Lt.toArray[j]? = _; rw [List.getElem?_toArray, hc]; exact List.getElem?_eq_getElem hj, ?_⟩
    have mc : c ∈ Lt := by rw [hc]; exact List.getElem_mem hj
    have et : Lt.take (j + 1) = Lt.take j ++ [c] := by rw [List.take_succ_eq_append_getElem hj, hc]
    have hk' : W'[k]? = some wk := by rw [same k (Nat.le_refl _)]; exact hk
    have lk : k < W'.length := (List.getElem?_eq_some_iff.mp hk').1
    have up : ∀ d ∈ Lt.take j, d < c := fun d m => by
      obtain ⟨i, hi, ei⟩ := List.mem_take_iff_getElem.mp m
      have := List.pairwise_iff_getElem.mp asc i j (by omega) hj (by omega)
      omega
    have dn : ∀ d ∈ Lt, d < c → d ∈ Lt.take j := fun d m lt => by
      obtain ⟨i, hi, ei⟩ := List.mem_iff_getElem.mp m
      refine List.mem_take_iff_getElem.mpr ⟨i, ?_, ei⟩
      rcases Nat.lt_trichotomy i j with z | z | z
      · omega
      · subst z; omega
      · have := List.pairwise_iff_getElem.mp asc j i hj hi z
        omega
    have lw := cnt q'
    have lwk := Qs.wlen q' _ wk k rfl hk'
    obtain ⟨nw, hnw⟩ : ∃ nw, nw = rn (qst L R L' R') (l, r) (wk ++ [c]) := ⟨_, rfl⟩
    have e1 : nxS L R (rn (qst L R L' R') (l, r) wk).1 c = nw.1 := by rw [hnw, rn_snoc_]
    have e2 : nxS L' R' (rn (qst L R L' R') (l, r) wk).2 c = nw.2 := by rw [hnw, rn_snoc_]
    have memS : (pn2 nw ∈ W'.map fun w => pn2 (rn (qst L R L' R') (l, r) w)) ↔ ∃ u ∈ W', rn (qst L R L' R') (l, r) u = rn (qst L R L' R') (l, r) (wk ++ [c]) := by
      rw [List.mem_map]
      constructor
      · rintro ⟨u, mu, eu⟩
        exact ⟨u, mu, by rw [← hnw]; exact pn2_inj eu⟩
      · rintro ⟨u, mu, eu⟩
        exact ⟨u, mu, by rw [eu, hnw]⟩
    show w__law_qt_first_5 _ _ _
    simp only [wgName, List.set_cons_succ, List.set_cons_zero]
    have next : ∀ (D' : DE), D'.nx = Inv (j + 1) → w__law_qt_first_5 D' [some (.dat (tabD L R E)), some (.dat (tabD L' R' E')), a0, a3, a4, some (.dat (.str (tz Lt))), some (.loc 1), some (.loc 2), some (.loc 3), a9, a10, some (T.dat (.str (tz [c]))), a12'] μ' := fun D' hD' => by
      rw [e3, e4, e9]
      simp only [w__law_qt_first_5, wSeq, wAsg, wTup, wCall, wCons, wNil, wVar, wgName, List.getElem?_cons_zero, List.getElem?_cons_succ]
      refine c__law_qt_next ok (st1 wk) ?_
      refine c__law_qt_next ok' (st2 wk) ?_
      rw [e1, e2]
      refine ⟨by simp; omega, ?_⟩
      refine (mkT_2 _ _ _ _).mpr ?_
      simp only [List.set_cons_succ, List.set_cons_zero]
      show w__law_qt_first_4 D' [_, _, _, _, _, _, _, _, _, _, _, _, some (nT (pn2 nw))] μ'
      simp only [w__law_qt_first_4, wIfS, wB, wOp, wVar, List.getElem?_cons_zero, List.getElem?_cons_succ]
      refine oDNotIn_nd h'.s ?_
      by_cases m : pn2 nw ∈ W'.map fun w => pn2 (rn (qst L R L' R') (l, r) w)
      · have e0 : decide (pn2 nw ∉ W'.map fun w => pn2 (rn (qst L R L' R') (l, r) w)) = false := by simp [m]
        simp only [e0, asB, nm, Bool.false_eq_true, if_false, wNext]
        rw [hD', hI]
        refine ⟨_, _, W', by rw [e3, e4, e9], ?_, same, h'⟩
        rw [et]
        exact q'.old hk' (memS.mp m)
      · have e0 : decide (pn2 nw ∉ W'.map fun w => pn2 (rn (qst L R L' R') (l, r) w)) = true := by simp [m]
        simp only [e0, asB, nm, if_true, wSeq, wAsg, wC, wgSub, wVar, List.getElem?_cons_zero, List.getElem?_cons_succ]
        refine oDSet_nd h'.s (by rw [List.length_map]; omega) ?_
        rw [sD_new m]
        have l3 : 3 < μ'.length := (List.getElem?_eq_some_iff.mp h'.s).1
        simp only [w__law_qt_first_3, wSeq, wDrop, wBM, wVar, wCons, wNil, List.getElem?_cons_zero, List.getElem?_cons_succ]
        have g1 : (μ'.set 3 (.dt (sD ((W'.map fun w => pn2 (rn (qst L R L' R') (l, r) w)) ++ [pn2 nw]))))[1]? = some (.lst (W'.map fun w => nT (pn2 (rn (qst L R L' R') (l, r) w)))) := by rw [List.getElem?_set_ne (by decide)]; exact h'.p
        refine ⟨tyT_live g1, mAppend_live g1 (by simp; omega) ?_⟩
        simp only [w__law_qt_first_2, wDrop, wBM, wVar, wCons, wNil, wOp, List.getElem?_cons_zero, List.getElem?_cons_succ]
        obtain ⟨μ2, hμ2⟩ : ∃ μ2, μ2 = (μ'.set 3 (.dt (sD ((W'.map fun w => pn2 (rn (qst L R L' R') (l, r) w)) ++ [pn2 nw])))).set 1 (.lst ((W'.map fun w => nT (pn2 (rn (qst L R L' R') (l, r) w))) ++ [nT (pn2 nw)])) := ⟨_, rfl⟩
        rw [← hμ2]
        have g2 : μ2[2]? = some (.lst (W'.map fun w => T.dat (.str (tz w)))) := by rw [hμ2, List.getElem?_set_ne (by decide), List.getElem?_set_ne (by decide)]; exact h'.w
        have l2 : μ2.length = μ'.length := by rw [hμ2]; simp
        refine ⟨tyT_live g2, ?_⟩
        refine oIx_live (t := T.dat (.str (tz wk))) g2 (by rw [atI_nat]; simp [hk']) ?_
        refine oAdd_str _ _ _ _ (by rw [tz_len, tz_len]; simp; omega) ?_
        rw [tz_cat]
        refine mAppend_live g2 (by simp; omega) ?_
        rw [hD', hI]
        refine ⟨_, _, W' ++ [wk ++ [c]], by rw [e3, e4, e9], ?_, fun i hi => ?_, ?_, ?_, ?_⟩
        · rw [et]
          exact q'.new hk' mc up dn (fun z => m (memS.mpr z))
        · rw [List.getElem?_append_left (by omega)]
          exact same i hi
        · rw [List.getElem?_set_ne (by decide), hμ2, List.getElem?_set_self (by simp; omega), hnw]
          simp
        · rw [List.getElem?_set_self (by omega)]
          simp
        · rw [List.getElem?_set_ne (by decide), hμ2, List.getElem?_set_ne (by decide), List.getElem?_set_self l3, hnw]
          simp
    exact next _ rfl
  · rw [hI] at hinv
    rw [en, List.take_length] at hinv
    obtain ⟨a11', a12', W', rfl, q', same, h'⟩ := hinv
    exact hD a11' a12' μ' W' (q'.next fun c m => m) same h'
end
theorem wgT2 {i j : Nat} {x y : PyData} {env : En} {μ : Mu} {P : En → Mu → Prop} (h : P ((env.set i (some (.dat x))).set j (some (.dat y))) μ) : wgTup 2 (wgCons (wgName i) (wgCons (wgName j) wgNil)) (.dat (.tuple [x, y])) env μ P := by
  simp [DE.px, wSeq, wIfS, wB, wOp, wVar, wC, startE, asB, nm_dat, nm, rdQ, rdL, rdT, wAsg, wgName, wgSub, wRet, wRetN, wNext, wDrop, wCall, wCB, wPar, wBM, wSl, wPart, wNoPart, wgTup, wgCons, wgNil, wCons, wNil, cInt, itR, itT, itS, itL, wiR1, wiR2, wiT, wiS, wiL, wLc_eq, wFor_eq, wYes, wipeE, oAdd_int, oEqA_int', oEqA_str', oNeA_str', CTrue, gGt, gMul, gMod, gPow, gDiv, gSub, gLt, gLe, gGe, gAdd, gNeg, gMax, gMin, gAbs, cI1, cI2, wUn, uI, wIf, wTru, wNot, wAnd, wOr, wAndV, wOrV, wNotV, wLst, wTup, mkL, nm, wStarA, wRev, wPar3, wSetF, wFld, rdI, putT, wProp, wMake, wMeth, wSortSet, List.lookup, rdI, putT, List.lookup]
  exact h
theorem first_loop {L E L' E' : List Nat} {R R' : Rows} {b : Bool} {l r : Int} (ok : Tok L R E) (ok' : Tok L' R' E') (hl : Stt R l) (hr : Stt R' r) {PT : KT} {PX : KX} (hP : ∀ res, First (picsL (L ++ L')) (AptB b L R E L' R' E' l r) res → (∀ w, res = some w → w.length ≤ 3721) → PT (.dat (resD res)) []) {μ : Mu}
    (h : Stq (qst L R L' R') (l, r) [[]] μ) : w__law_qt_first_11 (DEof 0 PT PX) [some (.dat (tabD L R E)), some (.dat (tabD L' R' E')), some (.dat (.bool b)), some (.dat (.int l)), some (.dat (.int r)), some (.dat (.str (tz (picsL (L ++ L'))))), some (.loc 1), some (.loc 2), some (.loc 3), none, none, none, none] μ := by
  have hsz := sizeLine_ge
  have rl := ok.rl
  have rl' := ok'.rl
  obtain ⟨Lt, hLt⟩ : ∃ Lt, Lt = picsL (L ++ L') := ⟨_, rfl⟩
  rw [← hLt] at hP ⊢
  simp only [w__law_qt_first_11, wSeq]
  rw [wFor_eq]
  simp only [wiR1, wCons, wNil, wOp, wCB, wVar, wC, List.getElem?_cons_zero, List.getElem?_cons_succ]
  rw [oIxS1]
  refine cLen_seq (ts := (rwD R).map T.dat) rfl (fun z e => by cases e) ?_
  rw [oAdd_int, oIxS1]
  refine cLen_seq (ts := (rwD R').map T.dat) rfl (fun z e => by cases e) ?_
  rw [oAdd_int]
  obtain ⟨N, hN⟩ : ∃ N : Nat, N = (R.length + 1) * (R'.length + 1) := ⟨_, rfl⟩
  have hN2 : N ≤ 3721 := by
    rw [hN]
    exact Nat.mul_le_mul (show R.length + 1 ≤ 61 by omega) (show R'.length + 1 ≤ 61 by omega)
  have eN : ((((rwD R).map T.dat).length : Nat) : Int) + 1 = ((R.length + 1 : Nat) : Int) := by simp [rwD]
  have eN' : ((((rwD R').map T.dat).length : Nat) : Int) + 1 = ((R'.length + 1 : Nat) : Int) := by simp [rwD]
  rw [eN, eN']
  simp only [oI, nm, gMul]
  have eM : ((R.length + 1 : Nat) : Int) * ((R'.length + 1 : Nat) : Int) = (N : Int) := by rw [hN]; exact (Int.natCast_mul _ _).symm
  rw [eM, Int.toNat_natCast]
  refine ⟨cmulL (by omega) (by omega), by omega, by omega, ?_⟩
  obtain ⟨st, hst⟩ : ∃ st, st = qst L R L' R' := ⟨_, rfl⟩
  have st1 : ∀ w, Stt R (rn st (l, r) w).1 := fun w => by rw [hst, rn_pair]; exact rn_stt ok w hl
  have st2 : ∀ w, Stt R' (rn st (l, r) w).2 := fun w => by rw [hst, rn_pair]; exact rn_stt ok' w hr
  have cnt : ∀ {k : Nat} {done : List Nat} {W : List (List Nat)}, Qs st (l, r) Lt k done W → W.length ≤ N := fun {k done W} q => by
    have nd := q.nd
    have : (W.map fun w => pn2 (rn st (l, r) w)).Nodup := by
      rw [List.nodup_iff_pairwise_ne, List.pairwise_map] at nd ⊢
      exact nd.imp fun h e => h (pn2_inj e)
    have := nd_subN (b := unN R.length R'.length) this (fun v m => by
      obtain ⟨w, _, rfl⟩ := List.mem_map.mp m
      have h1 := st1 w
      have h2 := st2 w
      unfold Stt at h1 h2
      exact unN_mem.mpr ⟨_, _, rfl, by omega, by omega, by omega, by omega⟩)
    rw [List.length_map, unN_len, ← hN] at this
    exact this
  have hP : ∀ res, First Lt (fun w => gB b E E' (rn st (l, r) w) = true) res → (∀ w, res = some w → w.length ≤ 3721) → PT (.dat (resD res)) [] := by rw [hst]; exact hP
  rw [← hst] at h
  obtain ⟨Inv, hI⟩ : ∃ Inv : Nat → En → Mu → Prop, Inv = fun k env' μ' => ∃ a3 a4 a9 a10 a11 a12 W, env' = [some (.dat (tabD L R E)), some (.dat (tabD L' R' E')), some (.dat (.bool b)), a3, a4, some (.dat (.str (tz Lt))), some (.loc 1), some (.loc 2), some (.loc 3), a9, a10, a11, a12] ∧
    Qs st (l, r) Lt k [] W ∧ (∀ i w, i < k → W[i]? = some w → gB b E E' (rn st (l, r) w) = false) ∧ Stq st (l, r) W μ' := ⟨_, rfl⟩
  refine ⟨Inv, by rw [hI]; exact ⟨_, _, _, _, _, _, [[]], rfl, Qs.start, fun i w z => absurd z (Nat.not_lt_zero _), h⟩, fun j env' μ' _ _ => trivial, fun k env' μ' hk hinv => ?_, fun env' μ' hinv => ?_⟩
  · have hk : k < N := hk
    rw [hI] at hinv
    obtain ⟨a3, a4, a9, a10, a11, a12, W, rfl, q, ng, h'⟩ := hinv
    have lW := cnt q
    simp only [itR, wgName, List.set_cons_succ, List.set_cons_zero, Int.zero_add]
    have next : ∀ (D' : DE), D'.nx = Inv (k + 1) → D'.rt = endV 0 PT → w__law_qt_first_10 D' [some (.dat (tabD L R E)), some (.dat (tabD L' R' E')), some (.dat (.bool b)), a3, a4, some (.dat (.str (tz Lt))), some (.loc 1), some (.loc 2), some (.loc 3), some (.dat (.int (k : Int))), a10, a11, a12] μ' := fun D' hD hR => by
      simp only [w__law_qt_first_10, wSeq, wIfS, wB, wOp, wVar, wCB, wCons, wNil, List.getElem?_cons_zero, List.getElem?_cons_succ]
      refine cLen_live h'.p ?_
      simp only [oI, nm, CTrue, gGe, asB]
      refine ⟨trivial, ?_⟩
      rw [List.length_map]
      by_cases z : (W.length : Int) ≤ (k : Int)
      · simp only [decide_eq_true z, if_true, wRet, wC]
        rw [hR]
        exact end0 (hP none (q.stop ng (by omega)) fun w e => by cases e)
      · simp only [decide_eq_false z, Bool.false_eq_true, if_false, wNext]
        have lk : k < W.length := by omega
        obtain ⟨wk, hwk⟩ : ∃ wk, W[k]? = some wk := ⟨_, List.getElem?_eq_getElem lk⟩
        obtain ⟨s, hs⟩ : ∃ s, s = (rn st (l, r) wk).1 := ⟨_, rfl⟩
        obtain ⟨t, ht⟩ : ∃ t, t = (rn st (l, r) wk).2 := ⟨_, rfl⟩
        show w__law_qt_first_9 D' _ _
        simp only [w__law_qt_first_9, wSeq, wAsg, wOp, wVar, List.getElem?_cons_zero, List.getElem?_cons_succ]
        refine oIx_live (t := T.dat (prD s t)) h'.p (atI_nat (by simp [hwk, hs, ht]; rfl)) ?_
        refine wgT2 ?_
        simp only [List.set_cons_succ, List.set_cons_zero]
        show w__law_qt_first_8 D' _ _
        simp only [w__law_qt_first_8, wSeq, wAsg, wOp, wVar, wC, wgName, List.getElem?_cons_zero, List.getElem?_cons_succ, List.set_cons_succ, List.set_cons_zero]
        rw [oIxS2]
        refine oIn_i ?_
        show w__law_qt_first_7 D' _ _
        simp only [w__law_qt_first_7, wSeq, wIfS, wAnd, wB, wNot, wTru, wOp, wVar, wC, List.getElem?_cons_zero, List.getElem?_cons_succ]
        rw [oIxS2]
        refine oIn_i ?_
        refine oNeA_dd (d := .bool (inI s E)) (e := .bool (inI t E')) (toD_dat _ _ _) (toD_dat _ _ _) (by rfl) (by rfl) ?_
        have eg : gB b E E' (rn st (l, r) wk) = ((inI s E != inI t E') && !(b && inI t E')) := by rw [hs, ht]
        obtain ⟨x, hx⟩ : ∃ x, x = inI s E := ⟨_, rfl⟩
        obtain ⟨y, hy⟩ : ∃ y, y = inI t E' := ⟨_, rfl⟩
        rw [← hx, ← hy] at eg ⊢
        have hit : ((x != y) && !(b && y)) = true → wRet (wOp oIx (wVar 7) (wVar 9)) { nx := w__law_qt_first_6 D', rt := D'.rt, bk := D'.bk, ct := D'.ct, ex := D'.ex } [some (.dat (tabD L R E)), some (.dat (tabD L' R' E')), some (.dat (.bool b)), some (.dat (.int s)), some (.dat (.int t)), some (.dat (.str (tz Lt))), some (.loc 1), some (.loc 2), some (.loc 3), some (.dat (.int (k : Int))), some (.dat (.bool y)), a11, a12] μ' := fun e => by
          simp only [wRet, wOp, wVar, List.getElem?_cons_zero, List.getElem?_cons_succ]
          refine oIx_live (t := T.dat (.str (tz wk))) h'.w (atI_nat (by simp [hwk])) ?_
          rw [hR]
          exact end0 (hP (some wk) (q.hit ng hwk (eg.trans e)) fun w e => by cases e; have := Qs.wlen q _ wk k rfl hwk; omega)
        have miss : ((x != y) && !(b && y)) = false → wNext { nx := w__law_qt_first_6 D', rt := D'.rt, bk := D'.bk, ct := D'.ct, ex := D'.ex } [some (.dat (tabD L R E)), some (.dat (tabD L' R' E')), some (.dat (.bool b)), some (.dat (.int s)), some (.dat (.int t)), some (.dat (.str (tz Lt))), some (.loc 1), some (.loc 2), some (.loc 3), some (.dat (.int (k : Int))), some (.dat (.bool y)), a11, a12] μ' := fun e => by
          simp only [wNext]
          rw [hst] at q h' hs ht
          refine sign_loop ok ok' hl hr hLt q hwk h' (by rw [hs]) (by rw [ht]) rfl fun a11' a12' μ2 W2 q2 same h2 => ?_
          rw [hD, hI]
          refine ⟨_, _, _, _, _, _, W2, rfl, by rw [hst]; exact q2, fun i w hi hw => ?_, by rw [hst]; exact h2⟩
          rw [same i (by omega)] at hw
          by_cases z : i < k
          · exact ng i w z hw
          · have : i = k := by omega
            subst this
            rw [hwk] at hw
            cases hw
            exact eg.trans e
        cases x <;> cases y <;> cases b <;> simp only [PyData.eqv, asB, asTru, truT, nm, Bool.not_true, Bool.not_false, Bool.false_eq_true, if_true, if_false, decide_true, decide_false, beq_self_eq_true, Bool.not_eq_true', ite_true, ite_false] <;> first | exact hit rfl | exact miss rfl | skip
    exact next _ rfl rfl
  · have hinv : Inv N env' μ' := hinv
    rw [hI] at hinv
    obtain ⟨a3, a4, a9, a10, a11, a12, W, rfl, q, ng, h'⟩ := hinv
    simp only [w__law_qt_first_1, wRet, wC]
    exact end0 (hP none (q.stop ng (cnt q)) fun w e => by cases e)
theorem p__law_qt_first (ts : List T) (μ : Mu) (PT : KT) (PX : KX) (h : d__law_qt_first ts μ PT PX) : w__law_qt_first (DEof μ.length PT PX) (startE 13 ts) μ := by
  obtain ⟨L, R, E, L', R', E', b, l, r, rfl, rfl, ok, ok', hl, hr, hP⟩ := h
  have hsz := sizeLine_ge
  have low : Low (L ++ L') := fun c m => (List.mem_append.mp m).elim (ok.low c) (ok'.low c)
  have l1 := ok.sg.2.2
  have l2 := ok'.sg.2.2
  show w__law_qt_first (DEof 0 PT PX) [some (.dat (tabD L R E)), some (.dat (tabD L' R' E')), some (.dat (.bool b)), some (.dat (.int l)), some (.dat (.int r)), none, none, none, none, none, none, none, none] []
  simp only [w__law_qt_first, wSeq, wAsg]
  refine sig_ok (l := L ++ L') (μ1 := []) low (by simp; omega) (fun Q q => ?_) ?_
  · simp only [wOp, wVar, wC, List.getElem?_cons_zero, List.getElem?_cons_succ]
    rw [oIxS0, oIxS0]
    refine oAdd_str _ _ _ _ (by rw [tz_len, tz_len]; omega) ?_
    rw [tz_cat]
    exact q
  simp only [w__law_qt_first_12, wgName, wSeq, wPar3, wCons, wNil, wLst, wTup, wVar, wC, wDispT, List.set_cons_succ, List.set_cons_zero, List.getElem?_cons_zero, List.getElem?_cons_succ, List.nil_append]
  refine ⟨by simp; omega, ?_⟩
  refine (mkT_2 _ _ _ _).mpr ?_
  refine ⟨by simp; omega, ?_⟩
  simp only [mkL]
  refine ⟨by simp; omega, ?_⟩
  refine ⟨by simp; omega, ?_⟩
  refine (mkT_2 _ _ _ _).mpr ?_
  refine ⟨_, [.inl l, .inl r], rfl, rfl, rfl, ?_⟩
  exact first_loop ok ok' hl hr hP ⟨rfl, by simp [empty_eq], rfl⟩
theorem c__law_qt_first {t u : T} {L E : List Nat} {R : Rows} {L' E' : List Nat} {R' : Rows} {b : Bool} {μ : Mu} {P : KT} {PX : KX} (h : toD 8 μ t = some (tabD L R E)) (h' : toD 8 μ u = some (tabD L' R' E')) (ok : Tok L R E) (ok' : Tok L' R' E')
    (hP : ∀ res, First (picsL (L ++ L')) (AptB b L R E L' R' E' 0 0) res → (∀ w, res = some w → w.length ≤ 3721) → P (.dat (resD res)) μ) : callD (apD [.int 0, .int 0] (Dn 5 d__law_qt_first)) [t, u, .dat (.bool b)] μ P PX :=
  callL0 (ds := [tabD L R E, tabD L' R' E', .bool b]) (by simp [toDs, h, h', toD_dat]) fun PT PX' k _ => ⟨rfl, L, R, E, L', R', E', b, 0, 0, rfl, rfl, ok, ok', .inr ⟨by omega, by have := ok.gt.ne; omega⟩, .inr ⟨by omega, by have := ok'.gt.ne; omega⟩, fun r hr hw => k _ _ (by cases r <;> trivial) (fun o m => by simp at m) (by simpa [T.ren] using hP r hr hw)⟩
theorem apt_false {L E L' E' : List Nat} {R R' : Rows} (w : List Nat) : AptB false L R E L' R' E' 0 0 w ↔ Apt L R E L' R' E' w := by
  unfold AptB Apt inT
  rw [rn_pair]
  simp [gB]
end DL
/-! FQ3: a table widened by a sign; letters drawn. -/
namespace DL
open PySem PySem.Spec L2
open Tb (Rows Gt)
/-- signs joined -/
theorem join_signs {n : Nat} {cs : List Nat} {μ : Mu} {P : KT} (h : μ[n]? = some (.lst (cs.map fun c => T.dat (.str (tz [c]))))) (l : cs.length ≤ 1000) (hP : P (.dat (.str (tz cs))) μ) : mJoin (.dat (.str "")) [.loc n] μ P := by
  refine mJoin_ok (a := tz []) (by rw [← empty_eq]; rfl) (xs := cs.map fun c => T.dat (.str (tz [c]))) (rdQ_live h) (strsT_ones _ _) ?_ ?_
  · have : ((cs.map fun c => tz [c]).map fun z : Str => z.length).sum ≤ (cs.map fun c => tz [c]).length * 1 := sum_le fun x hx => by
      obtain ⟨c, _, rfl⟩ := List.mem_map.mp hx
      exact Nat.le_refl 1
    rw [List.length_map] at this ⊢
    rw [tz_len]
    show _ + _ * 0 ≤ _
    omega
  · rw [join_chars]
    exact hP
/-- some letters, by coins -/
theorem some_ok {env : En} {x i j : Nat} {m : Int} {Ls : List Nat} {o : O} {k : Int} {μ : Mu} {P : KT} {PX : KX} (h0 : env[0]? = some (some (.loc x))) (hi : env[i]? = some (some (.dat (.str (tz Ls))))) (hj : j ≠ 0) (hjl : j < env.length) (hx : μ[x]? = some o) (hp : Pur k o) (hk : k < 2 ^ 37)
    (l : Ls.length ≤ 10) (m0 : 0 < m) (m1 : m < 2 ^ 100) (hP : ∀ (o' : O) (L2 : List Nat) (xs : List T), Pur (k + 10) o' → L2.Sublist Ls → P (.dat (.str (tz L2))) (μ.set x o' ++ [.lst xs])) :
    wBM "str" mJoin (wC (.str "")) (wCons (wLc (wiA (wVar i)) (wgName j) (wB (wOp (oI CTrue gGt) (wCall (Dn 2 d__law_coin) (wCons (wVar 0) (wCons (wC (.int m)) wNil))) (wC (.int 0)))) (wVar j) [j]) wNil) env μ P PX := by
  have hs := sizeLine_ge
  have lx : x < μ.length := (List.getElem?_eq_some_iff.mp hx).1
  simp only [wBM, wC, wCons, wNil, wLc_eq]
  refine ⟨by simp [tyT, nm], ?_⟩
  refine wiA_S (z := tz Ls) (var_q hi) ?_
  have en : (itS (tz Ls)).n = Ls.length := by simp [itS, tz]
  obtain ⟨Inv, hI⟩ : ∃ Inv : Nat → List T → Mu → Prop, Inv = fun n acc μ' => ∃ (o' : O) (L2 : List Nat), μ' = μ.set x o' ∧ Pur (k + (n : Nat)) o' ∧ L2.Sublist (Ls.take n) ∧ acc = L2.map (fun c => T.dat (.str (tz [c]))) := ⟨_, rfl⟩
  refine ⟨Inv, by rw [hI]; exact ⟨o, [], by
    apply List.ext_getElem?
    intro i
    by_cases e : x = i
    · subst e; rw [List.getElem?_set_self lx, hx]
    · rw [List.getElem?_set_ne e], by simpa using hp, by simp, rfl⟩, fun _ _ _ _ _ => trivial, fun n acc μ' hn hinv => ?_, fun acc μ' hinv => ?_⟩
  · rw [en] at hn
    rw [hI] at hinv
    obtain ⟨o1, L2, rfl, p1, sub, rfl⟩ := hinv
    obtain ⟨c, hc⟩ : ∃ c, c = Ls[n] := ⟨_, rfl⟩
    refine ⟨c, by show Ls.toArray[n]? = _; rw [List.getElem?_toArray, hc]; exact List.getElem?_eq_getElem hn, ?_⟩
    have e0 : ((wipeE env [j]).set j (some (T.dat (.str (tz [c])))))[0]? = some (some (.loc x)) := by
      rw [List.getElem?_set_ne hj]
      show (env.set j none)[0]? = _
      rw [List.getElem?_set_ne hj, h0]
    have e1 : ((wipeE env [j]).set j (some (T.dat (.str (tz [c])))))[j]? = some (some (T.dat (.str (tz [c])))) := List.getElem?_set_self (by show j < (env.set j none).length; rw [List.length_set]; exact hjl)
    have tk : Ls.take (n + 1) = Ls.take n ++ [c] := by rw [List.take_succ_eq_append_getElem hn, hc]
    show wB _ ((wipeE env [j]).set j (some (T.dat (.str (tz [c]))))) _ _ _
    generalize (wipeE env [j]).set j (some (T.dat (.str (tz [c])))) = env3 at e0 e1
    simp only [wB, wOp, wCall, wCons, wNil, wC]
    refine var_q e0 _ ?_
    refine c_coin (k := k + (n : Nat)) (List.getElem?_set_self lx) p1 (by omega) m0 (by omega) fun r o2 r0 r1 p2 => ?_
    rw [List.set_set]
    simp only [oI, nm, CTrue, gGt, asB]
    refine ⟨trivial, ?_⟩
    by_cases z : (0 : Int) < r
    · simp only [decide_eq_true z, if_true]
      refine var_q e1 _ ?_
      have ll := sub.length_le
      rw [List.length_take] at ll
      refine ⟨by simp; omega, ?_⟩
      rw [hI]
      refine ⟨o2, L2 ++ [c], rfl, p2.mono (by push_cast; omega), by rw [tk]; exact sub.append (List.Sublist.refl _), by simp⟩
    · simp only [decide_eq_false z, Bool.false_eq_true, if_false]
      rw [hI]
      exact ⟨o2, L2, rfl, p2.mono (by push_cast; omega), by rw [tk]; exact sub.trans (List.sublist_append_left _ _), rfl⟩
  · rw [en] at hinv
    rw [hI] at hinv
    obtain ⟨o1, L2, rfl, p1, sub, rfl⟩ := hinv
    rw [List.take_length] at sub
    have ll := sub.length_le
    simp only [mkL]
    refine join_signs (cs := L2) (by simp) (by omega) ?_
    exact hP o1 L2 _ (p1.mono (by omega)) sub
/-! ### a table widened -/
def w__law_qt_widened_1 : WpS := (wRet (wTup (wCons (wVar 2) (wCons (wOp oAdd (wVar 5) (wLst (wCons (wLc (wiA (wVar 2)) (wgName 7) wYes (wVar 4) [7]) wNil))) (wCons (wCB cList (wCons (wOp oIx (wVar 0) (wC (.int 2))) wNil)) wNil)))))
def w__law_qt_widened_2 : WpS := (wSeq (wAsg (wLc (wiA (wOp oIx (wVar 0) (wC (.int 1)))) (wgName 6) wYes (wOp oAdd (wOp oAdd (wSl oSl (wVar 6) wNoPart (wPart (wVar 3))) (wLst (wCons (wVar 4) wNil))) (wSl oSl (wVar 6) (wPart (wVar 3)) wNoPart)) [6]) (wgName 5))
    w__law_qt_widened_1)
def w__law_qt_widened_3 : WpS := (wSeq (wAsg (wTup (wCons (wBM "str" (mS1 CSix gFind) (wVar 2) (wCons (wVar 1) wNil)) (wCons (wCB cLen (wCons (wOp oIx (wVar 0) (wC (.int 1))) wNil)) wNil))) (wgTup 2 (wgCons (wgName 3) (wgCons (wgName 4) wgNil))))
    w__law_qt_widened_2)
def w__law_qt_widened : WpS := (wSeq (wAsg (wBM "str" mJoin (wC (.str "")) (wCons (wCB cSortedTx (wCons (wOp oAdd (wOp oIx (wVar 0) (wC (.int 0))) (wVar 1)) wNil)) wNil)) (wgName 2))
    w__law_qt_widened_3)
def wdr (p g : Nat) (r : List Nat) : List Nat := r.take p ++ [g] ++ r.drop p
theorem wdr_len (p g : Nat) (r : List Nat) : (wdr p g r).length = r.length + 1 := by
  unfold wdr
  simp only [List.length_append, List.length_take, List.length_drop, List.length_cons, List.length_nil]
  omega
theorem wdr_mem {p g x : Nat} {r : List Nat} (h : x ∈ wdr p g r) : x = g ∨ x ∈ r := by
  unfold wdr at h
  simp only [List.mem_append, List.mem_cons, List.not_mem_nil, or_false] at h
  rcases h with (h | h) | h
  · exact .inr (List.mem_of_mem_take h)
  · exact .inl h
  · exact .inr (List.mem_of_mem_drop h)
theorem dsi_wdr (p g : Nat) (r : List Nat) : (dsi r).take p ++ [T.dat (.int (g : Nat))] ++ (dsi r).drop p = dsi (wdr p g r) := by
  simp [dsi, wdr, List.map_append, List.map_take, List.map_drop]
/-- one row -/
theorem row_ok {p g : Nat} {r : List Nat} {μ : Mu} {Q : KT} {env : En} (h6 : env[6]? = some (some (T.dat (.list (inz r))))) (h3 : env[3]? = some (some (T.dat (.int (p : Nat))))) (h4 : env[4]? = some (some (T.dat (.int (g : Nat))))) (l : r.length ≤ 1000)
    (hP : ∀ μ', μ.length < μ'.length → (∀ (n : Nat) (o : O), μ[n]? = some o → μ'[n]? = some o) → ∀ n, μ.length ≤ n → μ'[n]? = some (.lst (dsi (wdr p g r))) → Q (.loc n) μ') :
    wOp oAdd (wOp oAdd (wSl oSl (wVar 6) wNoPart (wPart (wVar 3))) (wLst (wCons (wVar 4) wNil))) (wSl oSl (wVar 6) (wPart (wVar 3)) wNoPart) env μ Q NX := by
  have hs := sizeLine_ge
  simp only [wOp, wSl, wNoPart, wPart, wVar, h6, h3, nm]
  refine oSl_datL ?_
  simp only [wLst, wCons, wNil, wVar, h4, mkL]
  refine ⟨by simp; omega, ?_⟩
  have c1 : cutT ((inz r).map T.dat) none (some (p : Int)) = (dsi r).take p := by rw [inz_dsi, cutT_lo _ (by omega)]; rfl
  have c2 : cutT ((inz r).map T.dat) (some (p : Int)) none = (dsi r).drop p := by rw [inz_dsi, cutT_hi _ (by omega)]; rfl
  have ld : (dsi r).length = r.length := by simp [dsi]
  rw [c1]
  refine oAdd_lst (xs := (dsi r).take p) (ys := [T.dat (.int (g : Nat))]) (rdL_live (by simp)) (rdL_live (by simp)) (by simp <;> omega) ?_
  simp only [mkL]
  refine oSl_datL ?_
  rw [c2]
  refine oAdd_lst (xs := (dsi r).take p ++ [T.dat (.int (g : Nat))]) (ys := (dsi r).drop p) (rdL_live (by simp)) (rdL_live (by simp)) (by simp; omega) ?_
  simp only [mkL]
  rw [dsi_wdr]
  refine hP _ (by simp) (fun n o e => ?_) _ ?_ (by simp)
  · have ln := (List.getElem?_eq_some_iff.mp e).1
    simp only [List.append_assoc]
    rw [List.getElem?_append_left ln]
    exact e
  · simp
def d__law_qt_widened : DSp := fun ts μ P _ => ∃ (L : List Nat) (R : Rows) (E : List Nat) (c : Nat), ts = [.dat (tabD L R E), .dat (.str (tz [c]))] ∧ μ = [] ∧ Tok L R E ∧ R.length ≤ 50 ∧ L.length ≤ 10 ∧ low c = true ∧ c ∉ L ∧
  ∀ L' R', Tok L' R' E → L'.length = L.length + 1 → R'.length = R.length + 1 → P (.loc 0) (tabM 0 L' R' E)
theorem p__law_qt_widened (ts : List T) (μ : Mu) (PT : KT) (PX : KX) (h : d__law_qt_widened ts μ PT PX) : w__law_qt_widened (DEof μ.length PT PX) (startE 8 ts) μ := by
  obtain ⟨L, R, E, c, rfl, rfl, ok, rl, lL, lc, cL, hP⟩ := h
  have hs := sizeLine_ge
  show w__law_qt_widened (DEof 0 PT PX) [some (.dat (tabD L R E)), some (.dat (.str (tz [c]))), none, none, none, none, none, none] []
  simp only [w__law_qt_widened, wSeq, wAsg, wBM, wC, wCons, wNil, wCB, wOp, wVar, List.getElem?_cons_zero, List.getElem?_cons_succ]
  refine ⟨by simp [tyT, nm], ?_⟩
  rw [oIxS0]
  refine oAdd_str _ _ _ _ (by rw [tz_len, tz_len]; simp; omega) ?_
  rw [tz_cat]
  have ecp : (tz (L ++ [c])).cps.toList.map sg1 = (L ++ [c]).map fun c => tz [c] := by
    have e : (tz (L ++ [c])).cps.toList = L ++ [c] := by simp [tz]
    rw [e]
    rfl
  refine ⟨by show (L ++ [c]).toArray.size < 64; simp; omega, fun ys pm so => ?_⟩
  rw [ecp] at pm
  have hy : ∀ y ∈ ys, ∃ c, low c = true ∧ y = tz [c] := fun y hy => by
    obtain ⟨a, ma, rfl⟩ := List.mem_map.mp (pm.mem_iff.mp hy)
    rcases List.mem_append.mp ma with m | m
    · exact ⟨a, ok.low a m, rfl⟩
    · rw [List.mem_singleton.mp m]
      exact ⟨c, lc, rfl⟩
  obtain ⟨cs, rfl, lo'⟩ := strs_ones hy
  have pw1 := ones_sorted so
  have ndL : (L ++ [c]).Nodup := by
    rw [List.nodup_append]
    refine ⟨ok.asc.imp fun z e => (by subst e; omega), by simp, fun a ma b mb e => ?_⟩
    rw [List.mem_singleton] at mb
    subst e
    subst mb
    exact cL ma
  have pc : cs.Perm (L ++ [c]) := by
    have inj : ∀ {a b : Nat}, tz [a] = tz [b] → a = b := fun e => (List.cons.inj (tz_inj.mp e)).1
    have nd0 : ((L ++ [c]).map fun c => tz [c]).Nodup := by
      rw [List.nodup_iff_pairwise_ne, List.pairwise_map]
      rw [List.nodup_iff_pairwise_ne] at ndL
      exact ndL.imp fun h e => h (inj e)
    have nd1 := pm.symm.nodup nd0
    refine (List.perm_ext_iff_of_nodup ?_ ndL).mpr fun a => ?_
    · rw [List.nodup_iff_pairwise_ne, List.pairwise_map] at nd1
      rw [List.nodup_iff_pairwise_ne]
      exact nd1.imp fun h e => h (by rw [e])
    · have := pm.mem_iff (a := tz [a])
      rw [List.mem_map, List.mem_map] at this
      constructor
      · intro m
        obtain ⟨b, mb, e⟩ := this.mp ⟨a, m, rfl⟩
        rw [← inj e]
        exact mb
      · intro m
        obtain ⟨b, mb, e⟩ := this.mpr ⟨a, m, rfl⟩
        rw [← inj e]
        exact mb
  have lcs : cs.length = L.length + 1 := by rw [pc.length_eq]; simp
  have asc' := lt_of_le_nd pw1 (pc.symm.nodup ndL)
  have mcs : c ∈ cs := pc.mem_iff.mpr (by simp)
  have e1 : ((cs.map fun c => tz [c]).map fun y => T.dat (.str y)) = cs.map fun c => T.dat (.str (tz [c])) := by rw [List.map_map]; rfl
  rw [e1]
  refine join_signs (cs := cs) rfl (by omega) ?_
  simp only [wgName, List.set_cons_succ, List.set_cons_zero, List.nil_append]
  show w__law_qt_widened_3 _ _ _
  obtain ⟨p, hp⟩ : ∃ p, p = Tb.ix cs c := ⟨_, rfl⟩
  obtain ⟨g, hg⟩ : ∃ g, g = R.length := ⟨_, rfl⟩
  simp only [w__law_qt_widened_3, wSeq, wAsg, wTup, wBM, wCons, wNil, wCB, wOp, wVar, wC, List.getElem?_cons_zero, List.getElem?_cons_succ]
  refine ⟨by simp [tyT, nm], ?_⟩
  have ef : Txt.find (tz cs) (tz [c]) = ((p : Nat) : Int) := by rw [find_one, if_pos mcs, hp]
  refine ⟨by show Txt.find (tz cs) (tz [c]) ≠ -1; rw [ef]; omega, ?_⟩
  refine (oIxS1 _ _ _ _ _).mpr ?_
  refine cLen_seq (ts := (rwD R).map T.dat) rfl (fun z e => by cases e) ?_
  refine ⟨by simp; omega, ?_⟩
  refine (mkT_2 _ _ _ _).mpr ?_
  rw [show gFind (tz cs) (tz [c]) = .int ((p : Nat) : Int) by unfold gFind; rw [ef]]
  rw [show ((((rwD R).map T.dat).length : Nat) : Int) = ((g : Nat) : Int) by simp [rwD, hg]]
  refine wgT2 ?_
  simp only [List.set_cons_succ, List.set_cons_zero]
  show w__law_qt_widened_2 _ _ _
  simp only [w__law_qt_widened_2, wSeq, wAsg, wLc_eq]
  refine wiA_L (t := .dat (.list (rwD R))) (ts := (rwD R).map .dat) (μ1 := [O.lst (List.map (fun c => T.dat (.str (tz [c]))) cs)]) (fun Q hQ => ?_) rfl ?_
  · simp only [wOp, wVar, wC, List.getElem?_cons_zero, List.getElem?_cons_succ]
    exact (oIxS1 _ _ _ _ _).mpr hQ
  obtain ⟨Inv, hI⟩ : ∃ Inv : Nat → List T → Mu → Prop, Inv = fun i acc μ => ∃ ls : List Nat, acc = ls.map T.loc ∧ ls.length = i ∧ ls.Pairwise (· < ·) ∧ (∀ n ∈ ls, n < μ.length) ∧ ∀ (j l : Nat) (q : List Nat), ls[j]? = some l → R[j]? = some q → μ[l]? = some (.lst (dsi (wdr p g q))) := ⟨_, rfl⟩
  refine ⟨Inv, by rw [hI]; exact ⟨[], rfl, rfl, .nil, by simp, fun j l q e => by simp at e⟩, fun _ _ _ _ _ => rfl, fun i acc μ hi h => ?_, fun acc μ h => ?_⟩
  · have hi : i < ((rwD R).map T.dat).length := hi
    have hR : i < R.length := by simpa [rwD] using hi
    rw [hI] at h
    obtain ⟨ls, rfl, ll, pw, lt, row⟩ := h
    refine ⟨.dat (.list (inz R[i])), by simp [rwD, hR], ?_⟩
    have wd := ok.gt.w R[i] (List.getElem_mem hR)
    simp only [wYes, wgName, wipeE, List.set_cons_succ, List.set_cons_zero, if_true]
    refine row_ok (r := R[i]) rfl rfl rfl (by omega) fun μ' hl up n hn hr => ?_
    refine ⟨by simp; omega, ?_⟩
    rw [hI]
    refine ⟨ls ++ [n], by simp, by simp [ll], ?_, fun m hm => ?_, fun j l q hj hq => ?_⟩
    · rw [List.pairwise_append]
      refine ⟨pw, by simp, fun a ha b hb => ?_⟩
      rw [List.mem_singleton.mp hb]
      have := lt a ha
      omega
    · rcases List.mem_append.mp hm with z | z
      · have := lt m z
        omega
      · rw [List.mem_singleton.mp z]
        exact (List.getElem?_eq_some_iff.mp hr).1
    · by_cases z : j < ls.length
      · rw [List.getElem?_append_left z] at hj
        exact up _ _ (row j l q hj hq)
      · have lj := (List.getElem?_eq_some_iff.mp hj).1
        simp at lj
        have : j = ls.length := by omega
        subst this
        rw [List.getElem?_append_right (Nat.le_refl _)] at hj
        simp at hj
        subst hj
        rw [ll, List.getElem?_eq_getElem hR] at hq
        cases hq
        exact hr
  · rw [hI] at h
    obtain ⟨ls, rfl, ll, pw, lt, row⟩ := h
    have ll : ls.length = R.length := by rw [ll]; show ((rwD R).map T.dat).length = _; simp [rwD]
    simp only [mkL, wgName, List.set_cons_succ, List.set_cons_zero]
    obtain ⟨μ1, hμ1⟩ : ∃ μ1, μ1 = μ ++ [O.lst (ls.map T.loc)] := ⟨_, rfl⟩
    have l1 : μ1.length = μ.length + 1 := by rw [hμ1]; simp
    have g1 : μ1[μ.length]? = some (.lst (ls.map T.loc)) := by rw [hμ1]; simp
    have up1 : ∀ {n : Nat} {o : O}, μ[n]? = some o → μ1[n]? = some o := fun {n o} e => by
      rw [hμ1, List.getElem?_append_left (List.getElem?_eq_some_iff.mp e).1]
      exact e
    rw [← hμ1]
    show w__law_qt_widened_1 _ _ μ1
    simp only [w__law_qt_widened_1, wRet, wTup, wCons, wNil, wOp, wLst, wVar, wLc_eq, List.getElem?_cons_zero, List.getElem?_cons_succ]
    refine wiA_S (z := tz cs) (var_q rfl) ?_
    have en : (itS (tz cs)).n = cs.length := by simp [itS, tz]
    refine lc_pure (fun _ => T.dat (.int (g : Nat))) trivial (by omega) (fun i hi Q q => ?_) ?_
    · rw [en] at hi
      refine ⟨cs[i], by show cs.toArray[i]? = _; rw [List.getElem?_toArray]; exact List.getElem?_eq_getElem hi, ?_⟩
      exact q
    rw [en]
    have er : (List.range cs.length).map (fun _ => T.dat (.int (g : Nat))) = dsi (List.replicate cs.length g) := by
      rw [List.map_const', List.length_range]
      simp [dsi]
    rw [er]
    obtain ⟨a, ha⟩ : ∃ a, a = μ1.length := ⟨_, rfl⟩
    refine ⟨by simp; omega, ?_⟩
    simp only [mkL]
    refine oAdd_lst (xs := ls.map T.loc) (ys := [T.loc μ1.length]) (rdL_live (n := μ.length) ?_) (rdL_live (by simp)) (by simp; omega) ?_
    · simp only [List.append_assoc]
      rw [List.getElem?_append_left (by omega)]
      exact g1
    simp only [mkL, wCB, wCons, wNil, wOp, wVar, wC, List.getElem?_cons_zero]
    refine (oIxS2 _ _ _ _ _).mpr ?_
    refine cList_L (rdQ_inz _ _) ?_
    have tg := (List.length_append (as := ls.map T.loc) (bs := [T.loc μ1.length]))
    simp only [List.append_assoc, List.cons_append, List.nil_append, List.length_append, List.length_cons, List.length_nil]
    refine ⟨by omega, ?_⟩
    obtain ⟨μ5, h5⟩ : ∃ μ5, μ5 = μ1 ++ [O.lst (dsi (List.replicate cs.length g)), O.lst [T.loc μ1.length], O.lst (ls.map T.loc ++ [T.loc μ1.length]), O.lst (dsi E)] := ⟨_, rfl⟩
    have at5 : ∀ i, μ5[a + i]? = [O.lst (dsi (List.replicate cs.length g)), O.lst [T.loc μ1.length], O.lst (ls.map T.loc ++ [T.loc μ1.length]), O.lst (dsi E)][i]? := fun i => by
      rw [h5, List.getElem?_append_right (by omega), ha, Nat.add_sub_cancel_left]
    have up5 : ∀ {n : Nat} {o : O}, μ[n]? = some o → μ5[n]? = some o := fun {n o} e => by
      rw [h5, List.getElem?_append_left (List.getElem?_eq_some_iff.mp (up1 e)).1]
      exact up1 e
    have l5 : μ5.length = a + 4 := by rw [h5, ha]; simp
    rw [← h5, ← ha]
    have eI : ls.map T.loc ++ [T.loc μ1.length] = (ls ++ [a]).map T.loc := by rw [ha]; simp
    have gr : μ5[a + 2]? = some (.lst ((ls ++ [a]).map T.loc)) := by rw [at5 2, ← eI]; rfl
    have ge : μ5[a + 3]? = some (.lst (dsi E)) := at5 3
    have ga : μ5[a]? = some (.lst (dsi (List.replicate cs.length g))) := at5 0
    refine mkT_live (n := a + 2) (o := .lst ((ls ++ [a]).map T.loc)) (by simp) gr (fun d z => nomatch z) ?_
    rw [l5]
    obtain ⟨R', hR'⟩ : ∃ R', R' = R.map (wdr p g) ++ [List.replicate cs.length g] := ⟨_, rfl⟩
    have lR' : R'.length = R.length + 1 := by rw [hR']; simp
    have up6 : ∀ {n : Nat} {o : O}, μ5[n]? = some o → (μ5 ++ [O.tup [T.dat (.str (tz cs)), T.loc (a + 2), T.loc (a + 3)]])[n]? = some o := fun {n o} e => by
      rw [List.getElem?_append_left (List.getElem?_eq_some_iff.mp e).1]
      exact e
    have lsa : ∀ n ∈ ls ++ [a], n ≤ a := fun n m => by
      rcases List.mem_append.mp m with z | z
      · have := lt n z
        omega
      · rw [List.mem_singleton.mp z]
        exact Nat.le_refl _
    refine end_tab0 (r := a + 2) (e := a + 3) (ls := ls ++ [a]) (L := cs) (E := E) (R := R') ⟨?_, up6 gr, up6 ge, by rw [lR']; simp [ll], fun i l q hi hq => ?_⟩ ?_ (hP cs R' ?_ lcs lR')
    · rw [List.getElem?_append_right (by omega), l5, Nat.sub_self]
      rfl
    · by_cases z : i < ls.length
      · rw [List.getElem?_append_left z] at hi
        rw [hR', List.getElem?_append_left (by rw [List.length_map]; omega), List.getElem?_map, List.getElem?_eq_getElem (by omega)] at hq
        cases hq
        exact up6 (up5 (row i l _ hi (List.getElem?_eq_getElem (by omega))))
      · have li := (List.getElem?_eq_some_iff.mp hi).1
        simp at li
        have : i = ls.length := by omega
        subst this
        rw [List.getElem?_append_right (Nat.le_refl _)] at hi
        simp at hi
        subst hi
        rw [hR', List.getElem?_append_right (by rw [List.length_map]; omega), List.length_map, ll, Nat.sub_self] at hq
        cases hq
        exact up6 ga
    · have nd : (ls ++ [a]).Nodup := by
        rw [List.nodup_append]
        refine ⟨pw.imp fun z e => (by subst e; omega), by simp, fun x hx y hy e => ?_⟩
        rw [List.mem_singleton] at hy
        have := lt x hx
        omega
      simp only [List.nodup_cons, List.mem_cons, not_or]
      refine ⟨⟨by omega, by omega, fun m => ?_⟩, ⟨by omega, fun m => ?_⟩, fun m => ?_, nd⟩ <;> (have := lsa _ m; omega)
    · have memR : ∀ q ∈ R', (q.length = cs.length) ∧ ∀ x ∈ q, x < R'.length := fun q m => by
        rw [hR'] at m
        rcases List.mem_append.mp m with z | z
        · obtain ⟨q0, m0, rfl⟩ := List.mem_map.mp z
          refine ⟨by rw [wdr_len, ok.gt.w q0 m0, lcs], fun x hx => ?_⟩
          rcases wdr_mem hx with e | e
          · omega
          · have := ok.gt.lt q0 m0 x e
            omega
        · rw [List.mem_singleton.mp z]
          refine ⟨by simp, fun x hx => ?_⟩
          have := (List.mem_replicate.mp hx).2
          omega
      exact ⟨lo', asc', ⟨by omega, fun q m => (memR q m).1, fun q m => (memR q m).2⟩, by omega, ok.ea, fun x m => by have := ok.el x m; omega⟩
theorem c__law_qt_widened {t : T} {L : List Nat} {R : Rows} {E : List Nat} {c : Nat} {μ : Mu} {P : KT} {PX : KX} (h : toD 8 μ t = some (tabD L R E)) (ok : Tok L R E) (rl : R.length ≤ 50) (lL : L.length ≤ 10) (lc : low c = true) (cL : c ∉ L)
    (hP : ∀ L' R', Tok L' R' E → L'.length = L.length + 1 → R'.length = R.length + 1 → P (.loc μ.length) (μ ++ tabM μ.length L' R' E)) : callD (Dn 2 d__law_qt_widened) [t, .dat (.str (tz [c]))] μ P PX :=
  callL0 (ds := [tabD L R E, .str (tz [c])]) (by simp [toDs, h, toD_dat]) fun PT PX' k _ => ⟨rfl, L, R, E, c, rfl, rfl, ok, rl, lL, lc, cL, fun L' R' ok' l1 l2 => k_tab k (hP L' R' ok' l1 l2)⟩
end DL
/-! FQ4: a table's rival. -/
namespace DL
open PySem PySem.Spec L2
open Tb (Rows Gt Lq)
theorem c_qt_renumberedD {x : Nat} {o : O} {k : Int} {L E : List Nat} {R : Rows} {extra : Nat} {μ : Mu} {P : KT} {PX : KX} (h : μ[x]? = some o) (hp : Pur k o) (hk : k < 2 ^ 36) (ok : Tok L R E) (rl : R.length ≤ 40) (lL : L.length ≤ 6) (hx2 : extra ≤ 10)
    (hP : ∀ o' R' E', Pur (k + 1000) o' → Tok L R' E' → R'.length ≤ R.length + extra → Lq L.length R' E' R E 0 0 → P (.loc μ.length) (μ.set x o' ++ tabM μ.length L R' E')) : callD (Dn 3 d__law_qt_renumbered) [.loc x, .dat (tabD L R E), .dat (.int (extra : Nat))] μ P PX :=
  call_pt (ds := [tabD L R E, .int (extra : Nat)]) h hp.ren hp.nm (by simp [toDs, toD_dat]) (fun u m => by
    simp at m
    rcases m with rfl | rfl <;> rfl) fun PT PX' kk => ⟨rfl, o, k, L, R, E, extra, rfl, rfl, hp, hk, ok, rl, lL, hx2, fun o' R' E' p tok l lq => kk o' L R' E' p.at p.ren (hP o' R' E' p tok l lq)⟩
theorem c_qt_bentD {x : Nat} {o : O} {k : Int} {L E : List Nat} {R : Rows} {μ : Mu} {P : KT} {PX : KX} (h : μ[x]? = some o) (hp : Pur k o) (hk : k < 2 ^ 36) (ok : Tok L R E)
    (hP : ∀ o' R' E', Pur (k + 5) o' → Tok L R' E' → R'.length = R.length → P (.loc μ.length) (μ.set x o' ++ tabM μ.length L R' E')) : callD (Dn 2 d__law_qt_bent) [.loc x, .dat (tabD L R E)] μ P PX :=
  call_pt (ds := [tabD L R E]) h hp.ren hp.nm (by simp [toDs, toD_dat]) (fun u m => by
    simp at m
    rcases m with rfl
    rfl) fun PT PX' kk => ⟨rfl, o, k, L, R, E, rfl, rfl, hp, hk, ok, fun o' R' E' p tok l => kk o' L R' E' p.at p.ren (hP o' R' E' p tok l)⟩
def w__law_qt_rival_1 : WpS := (wRet (wCall (Dn 3 d__law_qt_sheet) (wCons (wVar 0) (wCons (wVar 6) (wCons (wVar 3) wNil)))))
def w__law_qt_rival_2 : WpS := (wSeq (wAsg (wBM "str" mJoin (wC (.str "")) (wCons (wLc (wiA (wVar 2)) (wgName 7) (wB (wOp (oI CTrue gGt) (wCall (Dn 2 d__law_coin) (wCons (wVar 0) (wCons (wC (.int 3)) wNil))) (wC (.int 0)))) (wVar 7) [7]) wNil)) (wgName 6))
    w__law_qt_rival_1)
def w__law_qt_rival_3 : WpS := (wSeq (wIfS (wAnd (wB (wOp oEqA (wVar 4) (wC (.int 3)))) (wB (wOp oNeA (wVar 5) (wLst wNil)))) (wRet (wCall (Dn 2 d__law_qt_widened) (wCons (wVar 1) (wCons (wOp oIx (wVar 5) (wCall (Dn 2 d__law_coin) (wCons (wVar 0) (wCons (wCB cLen (wCons (wVar 5) wNil)) wNil)))) wNil)))) wNext)
    w__law_qt_rival_2)
def w__law_qt_rival_4 : WpS := (wSeq (wAsg (wLc (wiA (wVar 2)) (wgName 7) (wB (wOp oNotIn (wVar 7) (wOp oIx (wVar 1) (wC (.int 0))))) (wVar 7) [7]) (wgName 5))
    w__law_qt_rival_3)
def w__law_qt_rival_5 : WpS := (wSeq (wIfS (wB (wOp oEqA (wVar 4) (wC (.int 2)))) (wRet (wCall (Dn 2 d__law_qt_bent) (wCons (wVar 0) (wCons (wCall (Dn 3 d__law_qt_renumbered) (wCons (wVar 0) (wCons (wVar 1) (wCons (wC (.int 3)) wNil)))) wNil)))) wNext)
    w__law_qt_rival_4)
def w__law_qt_rival_6 : WpS := (wSeq (wIfS (wB (wOp oEqA (wVar 4) (wC (.int 1)))) (wRet (wCall (Dn 3 d__law_qt_renumbered) (wCons (wVar 0) (wCons (wVar 1) (wCons (wC (.int 3)) wNil))))) wNext)
    w__law_qt_rival_5)
def w__law_qt_rival_7 : WpS := (wSeq (wIfS (wB (wOp oEqA (wVar 4) (wC (.int 0)))) (wRet (wCall (Dn 2 d__law_qt_bent) (wCons (wVar 0) (wCons (wVar 1) wNil)))) wNext)
    w__law_qt_rival_6)
def w__law_qt_rival : WpS := (wSeq (wAsg (wCall (Dn 2 d__law_coin) (wCons (wVar 0) (wCons (wC (.int 5)) wNil))) (wgName 4))
    w__law_qt_rival_7)
def d__law_qt_rival : DSp := fun ts μ P _ => ∃ (o : O) (k : Int) (L : List Nat) (R : Rows) (E Ls : List Nat) (high : Nat), ts = [.loc 0, .dat (tabD L R E), .dat (.str (tz Ls)), .dat (.int (high : Nat))] ∧ μ = [o] ∧ Pur k o ∧ k < 2 ^ 35 ∧ Tok L R E ∧ R.length ≤ 36 ∧ L.length ≤ 6 ∧ Low Ls ∧ Ls.Pairwise (· < ·) ∧ Ls.length ≤ 6 ∧ 1 ≤ high ∧ high ≤ 36 ∧
  ∀ o' L' R' E', Pur (k + 2000) o' → Tok L' R' E' → R'.length ≤ 40 → L'.length ≤ 7 → P (.loc 1) (o' :: tabM 1 L' R' E')
theorem end_res {o : O} {ν : Mu} {n : Nat} {L E : List Nat} {R : Rows} {P : KT} (h0 : ν[0]? = some o) (ho : ∀ f, O.ren f o = o) (e : n = ν.length) (hP : P (.loc 1) (o :: tabM 1 L R E)) : endV 1 P (.loc n) (ν ++ tabM n L R E) := by
  subst e
  have l0 : 0 < ν.length := (List.getElem?_eq_some_iff.mp h0).1
  have tb := TB.new ν L R E []
  rw [List.append_nil] at tb
  refine end_tab1 (by rw [List.getElem?_append_left l0]; exact h0) ho tb ?_ hP
  refine List.nodup_cons.mpr ⟨fun m => ?_, bl_nd _ _⟩
  simp at m
  omega
theorem p__law_qt_rival (ts : List T) (μ : Mu) (PT : KT) (PX : KX) (h : d__law_qt_rival ts μ PT PX) : w__law_qt_rival (DEof μ.length PT PX) (startE 8 ts) μ := by
  obtain ⟨o, k, L, R, E, Ls, high, rfl, rfl, hp, hk, ok, rl, lL, lo, asc, lLs, h1, h2, hP⟩ := h
  have hs := sizeLine_ge
  show w__law_qt_rival (DEof 1 PT PX) [some (.loc 0), some (.dat (tabD L R E)), some (.dat (.str (tz Ls))), some (.dat (.int (high : Nat))), none, none, none, none] [o]
  simp only [w__law_qt_rival, wSeq, wAsg, wCall, wCons, wNil, wVar, wC, wgName, List.getElem?_cons_zero, List.getElem?_cons_succ, List.set_cons_succ, List.set_cons_zero]
  refine c_coin (k := k) rfl hp (by omega) (by decide) (by decide) fun way o1 w0 w1 p1 => ?_
  show w__law_qt_rival_7 _ _ [o1]
  simp only [w__law_qt_rival_7, wSeq, wIfS, wB, wOp, wVar, wC, List.getElem?_cons_zero, List.getElem?_cons_succ]
  rw [oEqA_int']
  simp only [asB, nm]
  by_cases e0 : way = 0
  · simp only [e0, decide_true, if_true, wRet, wCall, wCons, wNil, wVar, List.getElem?_cons_zero, List.getElem?_cons_succ]
    refine c_qt_bentD (k := k + 1) rfl p1 (by omega) ok fun o2 R' E' p2 ok2 l2 => ?_
    exact end_res rfl p2.ren rfl (hP _ _ _ _ (p2.mono (by omega)) ok2 (by omega) (by omega))
  simp only [decide_eq_false e0, Bool.false_eq_true, if_false, wNext]
  show w__law_qt_rival_6 _ _ _
  simp only [w__law_qt_rival_6, wSeq, wIfS, wB, wOp, wVar, wC, List.getElem?_cons_zero, List.getElem?_cons_succ]
  rw [oEqA_int']
  simp only [asB, nm]
  by_cases e1 : way = 1
  · simp only [e1, decide_true, if_true, wRet, wCall, wCons, wNil, wVar, wC, List.getElem?_cons_zero, List.getElem?_cons_succ]
    refine c_qt_renumberedD (k := k + 1) (extra := 3) rfl p1 (by omega) ok (by omega) lL (by decide) fun o2 R' E' p2 ok2 l2 _ => ?_
    exact end_res rfl p2.ren rfl (hP _ _ _ _ (p2.mono (by omega)) ok2 (by omega) (by omega))
  simp only [decide_eq_false e1, Bool.false_eq_true, if_false, wNext]
  show w__law_qt_rival_5 _ _ _
  simp only [w__law_qt_rival_5, wSeq, wIfS, wB, wOp, wVar, wC, List.getElem?_cons_zero, List.getElem?_cons_succ]
  rw [oEqA_int']
  simp only [asB, nm]
  by_cases e2 : way = 2
  · simp only [e2, decide_true, if_true, wRet, wCall, wCons, wNil, wVar, wC, List.getElem?_cons_zero, List.getElem?_cons_succ]
    refine c_qt_renumberedD (k := k + 1) (extra := 3) rfl p1 (by omega) ok (by omega) lL (by decide) fun o2 R' E' p2 ok2 l2 _ => ?_
    have tb := TB.new [o2] L R' E' []
    rw [List.append_nil] at tb
    refine c_qt_bent (k := k + 1001) (x := 0) (o := o2) rfl (p2.mono (by omega)) (by omega) tb (.inl (by simp)) ok2 fun o3 R3 E3 p3 ok3 l3 => ?_
    exact end_res (o := o3) rfl p3.ren (by simp) (hP _ _ _ _ (p3.mono (by omega)) ok3 (by omega) (by omega))
  simp only [decide_eq_false e2, Bool.false_eq_true, if_false, wNext]
  show w__law_qt_rival_4 _ _ _
  simp only [w__law_qt_rival_4, wSeq, wAsg, wLc_eq]
  refine wiA_S (z := tz Ls) (var_q rfl) ?_
  have en : (itS (tz Ls)).n = Ls.length := by simp [itS, tz]
  obtain ⟨Inv, hI⟩ : ∃ Inv : Nat → List T → Mu → Prop, Inv = fun i acc μ => μ = [o1] ∧ acc = ((Ls.take i).filter fun c => !decide (c ∈ L)).map (fun c => T.dat (.str (tz [c]))) := ⟨_, rfl⟩
  refine ⟨Inv, by rw [hI]; exact ⟨rfl, rfl⟩, fun _ _ _ _ _ => trivial, fun i acc μ hi h => ?_, fun acc μ h => ?_⟩
  · rw [en] at hi
    rw [hI] at h
    obtain ⟨rfl, rfl⟩ := h
    obtain ⟨c, hc⟩ : ∃ c, c = Ls[i] := ⟨_, rfl⟩
    refine ⟨c, by show Ls.toArray[i]? = _; rw [List.getElem?_toArray, hc]; exact List.getElem?_eq_getElem hi, ?_⟩
    have tk : Ls.take (i + 1) = Ls.take i ++ [c] := by rw [List.take_succ_eq_append_getElem hi, hc]
    simp only [wgName, wipeE, List.set_cons_succ, List.set_cons_zero, wB, wOp, wVar, wC, List.getElem?_cons_zero, List.getElem?_cons_succ]
    rw [oIxS0]
    refine .inl ⟨c, rfl, ?_⟩
    have ecp : (tz L).cps.toList = L := by simp [tz]
    rw [ecp]
    simp only [asB, nm, if_true]
    by_cases m : c ∈ L
    · simp only [m, decide_true, Bool.not_true, Bool.false_eq_true, if_false]
      rw [hI]
      refine ⟨rfl, ?_⟩
      rw [tk, List.filter_append]
      simp [m]
    · simp only [m, decide_false, Bool.not_false, if_true]
      refine ⟨?_, ?_⟩
      · have := List.length_filter_le (fun c => !decide (c ∈ L)) (Ls.take i)
        rw [List.length_take] at this
        simp only [List.length_map]
        omega
      · rw [hI]
        refine ⟨rfl, ?_⟩
        rw [tk, List.filter_append]
        simp [m]
  · rw [en] at h
    rw [hI, List.take_length] at h
    obtain ⟨rfl, rfl⟩ := h
    obtain ⟨more, hm⟩ : ∃ more, more = Ls.filter fun c => !decide (c ∈ L) := ⟨_, rfl⟩
    rw [← hm]
    have lm : more.length ≤ 6 := by rw [hm]; exact Nat.le_trans (List.length_filter_le _ _) lLs
    simp only [mkL, wgName, List.set_cons_succ, List.set_cons_zero]
    show w__law_qt_rival_3 _ _ [o1, O.lst (more.map fun c => T.dat (.str (tz [c])))]
    have n2 : ∀ c ∈ more, c ∈ Ls ∧ c ∉ L := fun c m => by
      rw [hm] at m
      simpa using List.mem_filter.mp m
    have rest : ∀ (D' : DE) (env : En) (ν : Mu) (xs : List T), D'.rt = endV 1 PT → env[0]? = some (some (.loc 0)) → env[2]? = some (some (.dat (.str (tz Ls)))) → env[3]? = some (some (.dat (.int (high : Nat)))) → env.length = 8 → ν = o1 :: xs.map (fun _ => O.lst []) ∨ ν[0]? = some o1 →
        w__law_qt_rival_2 D' env ν := fun D' env ν xs hR g0 g2 g3 ge gn => by
      have gn : ν[0]? = some o1 := by
        rcases gn with e | e
        · rw [e]; rfl
        · exact e
      simp only [w__law_qt_rival_2, wSeq, wAsg]
      refine some_ok (x := 0) (i := 2) (j := 7) (m := 3) (o := o1) (k := k + 1) g0 g2 (by decide) (by omega) gn p1 (by omega) (by omega) (by decide) (by decide) fun o2 L2 ys p2 sub => ?_
      have l0 : 0 < ν.length := (List.getElem?_eq_some_iff.mp gn).1
      have l2 := sub.length_le
      have gn2 : (ν.set 0 o2 ++ [O.lst ys])[0]? = some o2 := by rw [List.getElem?_append_left (by simpa using l0), List.getElem?_set_self l0]
      generalize ν.set 0 o2 ++ [O.lst ys] = ν2 at gn2
      simp only [wgName, w__law_qt_rival_1, wRet, wCall, wCons, wNil, wVar]
      rw [List.getElem?_set_ne (by decide), g0, List.getElem?_set_self (by omega), List.getElem?_set_ne (by decide), g3]
      simp only []
      refine c_qt_sheet (k := k + 11) gn2 (p2.mono (by omega)) (by omega) (fun c m => lo c (sub.subset m)) (asc.sublist sub) (by omega) h1 h2 fun o3 R3 E3 p3 ok3 l3 => ?_
      have l0' : 0 < ν2.length := (List.getElem?_eq_some_iff.mp gn2).1
      rw [hR]
      exact end_res (List.getElem?_set_self l0') p3.ren (by simp) (hP _ _ _ _ (p3.mono (by omega)) ok3 (by omega) (by omega))
    simp only [w__law_qt_rival_3, wSeq, wIfS, wAnd, wB, wOp, wVar, wC, wLst, wNil, mkL, List.getElem?_cons_zero, List.getElem?_cons_succ]
    rw [oEqA_int']
    simp only [asB, nm]
    by_cases e3 : way = 3
    · simp only [e3, decide_true, if_true]
      refine ⟨by simp, ?_⟩
      have eD : toDs 7 ([o1, O.lst (more.map fun c => T.dat (.str (tz [c])))] ++ [O.lst []]) (more.map fun c => T.dat (.str (tz [c]))) = some (more.map fun c => PyData.str (tz [c])) := by
        rw [show (more.map fun c => T.dat (.str (tz [c]))) = (more.map fun c => PyData.str (tz [c])).map T.dat by rw [List.map_map]; rfl]
        exact toDs_dats _ _ _
      refine oNeA_dd (d := .list (more.map fun c => PyData.str (tz [c]))) (e := .list []) (toD_lst (n := 1) rfl eD) (toD_lst (n := 2) (ts := []) rfl (by simp [toDs])) ?_ shaped_nil ?_
      · exact (Gd.lst (n := 1) (GdL.all (k := 0) (b := 1) (f := fun c => PyData.str (tz [c])) (l := more) (n := 6) (fun c m => Gd.str (Low.sgn fun d md => by rw [List.mem_singleton.mp md]; exact lo c (n2 c m).1) (by simp)) lm)).shp
      · rw [eqv_nil]
        by_cases em : more = []
        · have e4 : (!(more.map fun c => PyData.str (tz [c])).isEmpty) = false := by rw [em]; rfl
          rw [e4]
          simp only [asB, nm, Bool.false_eq_true, if_false, wNext]
          exact rest _ _ _ [] rfl rfl rfl rfl rfl (.inr rfl)
        · have e4 : (!(more.map fun c => PyData.str (tz [c])).isEmpty) = true := by
            cases hh : more with
            | nil => exact absurd hh em
            | cons a b => rfl
          have lm1 : 1 ≤ more.length := by
            cases hh : more with
            | nil => exact absurd hh em
            | cons a b => simp
          rw [e4]
          simp only [asB, nm, if_true, wRet, wCall, wCons, wNil, wOp, wCB, wVar, List.getElem?_cons_zero, List.getElem?_cons_succ]
          refine cLen_live (n := 1) (ts := more.map fun c => T.dat (.str (tz [c]))) rfl ?_
          rw [List.length_map]
          refine c_coin (k := k + 1) rfl p1 (by omega) (by omega) (by omega) fun r o2 r0 r1 p2 => ?_
          obtain ⟨i, rfl⟩ : ∃ i : Nat, r = i := ⟨r.toNat, by omega⟩
          have li : i < more.length := by omega
          refine oIx_live (n := 1) (t := T.dat (.str (tz [more[i]]))) (ts := more.map fun c => T.dat (.str (tz [c]))) rfl (atI_nat (by simp [li])) ?_
          have mi := n2 more[i] (List.getElem_mem li)
          refine c__law_qt_widened (toD_dat _ _ _) ok (by omega) (by omega) (lo _ mi.1) mi.2 fun L' R' ok2 l1 l2 => ?_
          exact end_res (o := o2) rfl p2.ren rfl (hP _ _ _ _ (p2.mono (by omega)) ok2 (by omega) (by omega))
    · simp only [decide_eq_false e3, Bool.false_eq_true, if_false, wNext]
      exact rest _ _ _ [] rfl rfl rfl rfl rfl (.inr rfl)
theorem c_qt_rival {x t : Nat} {o : O} {k : Int} {L E Ls : List Nat} {R : Rows} {high : Nat} {μ : Mu} {P : KT} {PX : KX} (h : μ[x]? = some o) (hp : Pur k o) (hk : k < 2 ^ 35) (ht : TB μ t L R E) (hx : x < t ∨ t + 3 + R.length ≤ x) (ok : Tok L R E) (rl : R.length ≤ 36) (lL : L.length ≤ 6)
    (lo : Low Ls) (asc : Ls.Pairwise (· < ·)) (lLs : Ls.length ≤ 6) (h1 : 1 ≤ high) (h2 : high ≤ 36)
    (hP : ∀ o' L' R' E', Pur (k + 2000) o' → Tok L' R' E' → R'.length ≤ 40 → L'.length ≤ 7 → P (.loc μ.length) (μ.set x o' ++ tabM μ.length L' R' E')) : callD (Dn 4 d__law_qt_rival) [.loc x, .loc t, .dat (.str (tz Ls)), .dat (.int (high : Nat))] μ P PX :=
  call_pt (ds := [tabD L R E, .str (tz Ls), .int (high : Nat)]) h hp.ren hp.nm (by simp [toDs, toD_dat, (ht.mask hx).toD (k := 5)]) (fun u m => by
    simp at m
    rcases m with rfl | rfl | rfl
    · exact nm_loc ht.t (fun d z => nomatch z)
    · rfl
    · rfl) fun PT PX' kk => ⟨rfl, o, k, L, R, E, Ls, high, rfl, rfl, hp, hk, ok, rl, lL, lo, asc, lLs, h1, h2, fun o' L' R' E' p tok l l2 => kk o' L' R' E' p.at p.ren (hP o' L' R' E' p tok l l2)⟩
end DL
/-! K18: the first text that tells two tables apart. -/
namespace DL.K18
open PySem PySem.Spec L2
open Tb (Rows Gt Lq)
open Ft (First Ov first_iff first_one)
/-! ### what is told of first texts -/
theorem pics_swap (L L' : List Nat) : picsL (L' ++ L) = picsL (L ++ L') := by
  unfold picsL
  congr 1
  funext c
  simp [or_comm]
theorem apt_swap {L E L' E' : List Nat} {R R' : Rows} (w : List Nat) : Apt L' R' E' L R E w ↔ Apt L R E L' R' E' w := ne_comm
theorem first_swap {L E L' E' : List Nat} {R R' : Rows} {r : Option (List Nat)} (h : First (picsL (L ++ L')) (Apt L R E L' R' E') r) : First (picsL (L' ++ L)) (Apt L' R' E' L R E) r := by
  rw [pics_swap]
  exact first_iff (fun w _ => (apt_swap w).symm) h
theorem first_none {L E L' E' : List Nat} {R R' : Rows} {r : Option (List Nat)} (same : ∀ w, Ov (picsL (L ++ L')) w → inT L R E w = inT L' R' E' w) (h : First (picsL (L ++ L')) (Apt L R E L' R' E') r) : r = none := by
  cases r with
  | none => rfl
  | some w => exact absurd (same w h.1) h.2.1
/-- a run over a table's own letters -/
theorem run_acc {L E : List Nat} {R : Rows} (ok : Tok L R E) : ∀ (w : List Nat), Ov L w → ∀ s : Nat, s < R.length → rnS L R (s : Int) w = ((Tb.rn R s (w.map (Tb.ix L)) : Nat) : Int)
  | [], _, s, _ => rfl
  | c :: w, o, s, hs => by
    have mc : c ∈ L := o c List.mem_cons_self
    have e : nxS L R (s : Int) c = ((Tb.stp R s (Tb.ix L c) : Nat) : Int) := by
      unfold nxS
      rw [if_neg (by rintro (q | q); omega; exact q mc)]
      rfl
    have lt : Tb.stp R s (Tb.ix L c) < R.length := by
      have := nx_stt ok (s := (s : Int)) (.inr ⟨by omega, by omega⟩) c
      rw [e] at this
      rcases this with z | ⟨_, z⟩ <;> omega
    show rnS L R (nxS L R (s : Int) c) w = _
    rw [e, run_acc ok w (fun x m => o x (List.mem_cons_of_mem _ m)) _ lt]
    rfl
theorem in_acc {L E : List Nat} {R : Rows} (ok : Tok L R E) {w : List Nat} (o : Ov L w) : inT L R E w = Tb.acc R E 0 (w.map (Tb.ix L)) := by
  have e := run_acc ok w o 0 ok.gt.ne
  unfold inT
  rw [show ((0 : Nat) : Int) = 0 from rfl] at e
  rw [e, inI_dec]
  rfl
theorem lq_in {L E E' : List Nat} {R R' : Rows} (ok : Tok L R E) (ok' : Tok L R' E') (q : Lq L.length R' E' R E 0 0) : ∀ w, Ov (picsL (L ++ L)) w → inT L R E w = inT L R' E' w := fun w o => by
  have oL : Ov L w := fun c m => by
    have := (picsL_mem (fun d md => (List.mem_append.mp md).elim (ok.low d) (ok.low d))).mp (o c m)
    simpa using this
  rw [in_acc ok oL, in_acc ok' oL]
  refine (q (w.map (Tb.ix L)) fun a m => ?_).symm
  obtain ⟨c, mc, rfl⟩ := List.mem_map.mp m
  exact Tb.ix_lt (oL c mc)
/-! ### told as text -/
theorem resD_gd {L L' : List Nat} {r : Option (List Nat)} {acc : List Nat → Prop} (lo : Low (L ++ L')) (h : First (picsL (L ++ L')) acc r) (hw : ∀ w, r = some w → w.length ≤ 3721) : Gd 1 4000 (resD r) := by
  cases r with
  | none => exact Gd.mono Gd.none (by omega) (by omega)
  | some w => exact Gd.mono (Gd.str (b := 3721) (Low.sgn fun c m => lo c ((picsL_mem lo).mp (h.1 c m))) (hw w rfl)) (by omega) (by omega)
theorem neS {i : Str} {μ : Mu} {P : KT} (h : P (.dat (.bool false)) μ) : oNeA (.dat (.str i)) (.dat (.str i)) μ P := by
  rw [oNeA_str']
  simpa using h
/-! ### a table changed in place -/
def revR (R : Rows) (i : Nat) : Rows := R.set i (R.getD i []).reverse
theorem rev_tok {L E : List Nat} {R : Rows} (ok : Tok L R E) {i : Nat} (hi : i < R.length) : Tok L (revR R i) (E.erase i) := by
  have mem : ∀ r ∈ revR R i, ∃ q ∈ R, r.length = q.length ∧ ∀ x ∈ r, x ∈ q := fun r m => by
    unfold revR at m
    rcases List.mem_or_eq_of_mem_set m with z | z
    · exact ⟨r, z, rfl, fun x m => m⟩
    · refine ⟨R.getD i [], ?_, by rw [z, List.length_reverse], fun x m => by rw [z] at m; exact List.mem_reverse.mp m⟩
      rw [List.getD_eq_getElem?_getD, List.getElem?_eq_getElem hi]
      exact List.getElem_mem hi
  have ln : (revR R i).length = R.length := by simp [revR]
  refine ⟨ok.low, ok.asc, ⟨by rw [ln]; exact ok.gt.ne, fun r m => ?_, fun r m x mx => ?_⟩, by rw [ln]; exact ok.rl, ok.ea.sublist List.erase_sublist, fun x m => by rw [ln]; exact ok.el x (List.mem_of_mem_erase m)⟩
  · obtain ⟨q, mq, e, _⟩ := mem r m
    rw [e]
    exact ok.gt.w q mq
  · obtain ⟨q, mq, _, e⟩ := mem r m
    rw [ln]
    exact ok.gt.lt q mq x (e x mx)
theorem erase_ints (a : Nat) : ∀ E : List Nat, (E.map fun (x : Nat) => (x : Int)).erase (a : Int) = (E.erase a).map fun (x : Nat) => (x : Int)
  | [] => rfl
  | x :: E => by
    by_cases e : x = a
    · subst e
      simp
    · have e2 : ¬ ((x : Int) = (a : Int)) := by omega
      rw [List.map_cons, List.erase_cons_tail (by simpa using e2), List.erase_cons_tail (by simpa using e), List.map_cons, erase_ints a E]
theorem dsi_int (E : List Nat) : dsi E = (E.map fun (x : Nat) => (x : Int)).map fun i => T.dat (.int i) := by simp [dsi]
def w__law_right_1 (cE : Nat → Addr) : WpS := (wRet (wOp oIsN (wCall (Dn 2 (d_apart cE)) (wCons (wVar 7) (wCons (wVar 7) wNil))) (wC .none)))
def w__law_right_2 (cE : Nat → Addr) : WpS := (wIfS (wOr (wB (wOp oNeA (wCB cRepr (wCons (wCall (Dn 2 (d_apart cE)) (wCons (wVar 7) (wCons (wVar 8) wNil))) wNil)) (wCB cRepr (wCons (wVar 6) wNil)))) (wB (wOp oNeA (wCB cRepr (wCons (wCall (Dn 2 (d_apart cE)) (wCons (wVar 8) (wCons (wVar 7) wNil))) wNil)) (wCB cRepr (wCons (wVar 6) wNil))))) (wRet (wC (.bool false))) wNext)
def w__law_right_3 (cE : Nat → Addr) : WpS := (wSeq (wAsg (wCall (apD [.int (0), .int (0)] (Dn 5 d__law_qt_first)) (wCons (wVar 7) (wCons (wVar 8) (wCons (wC (.bool false)) wNil)))) (wgName 6))
    (w__law_right_2 cE))
def w__law_right_4 (cE : Nat → Addr) : WpS := (wSeq (wIfS (wB (wOp oIn (wVar 12) (wOp oIx (wVar 11) (wC (.int 2))))) (wDrop (wBM "list" mRemove (wOp oIx (wVar 11) (wC (.int 2))) (wCons (wVar 12) wNil))) wNext)
    (w__law_right_3 cE))
def w__law_right_5 (cE : Nat → Addr) : WpS := (wSeq (wDrop (wBM "list" mReverse (wOp oIx (wOp oIx (wVar 11) (wC (.int 1))) (wVar 12)) wNil))
    (w__law_right_4 cE))
def w__law_right_6 (cE : Nat → Addr) : WpS := (wSeq (wAsg (wCall (Dn 2 d__law_coin) (wCons (wVar 0) (wCons (wCB cLen (wCons (wOp oIx (wVar 11) (wC (.int 1))) wNil)) wNil))) (wgName 12))
    (w__law_right_5 cE))
def w__law_right_7 (cE : Nat → Addr) : WpS := (wSeq (wAsg (wOp oIx (wLst (wCons (wVar 7) (wCons (wVar 8) wNil))) (wCall (Dn 2 d__law_coin) (wCons (wVar 0) (wCons (wC (.int 2)) wNil)))) (wgName 11))
    (w__law_right_6 cE))
def w__law_right_8 (cE : Nat → Addr) : WpS := (wSeq (wFor (wiR1 (wCons (wC (.int 2)) wNil)) (wgName 10) (w__law_right_7 cE))
    (w__law_right_1 cE))
def w__law_right_9 (cE : Nat → Addr) : WpS := (wSeq (wIfS (wOr (wB (wOp oNotN (wCall (Dn 2 (d_apart cE)) (wCons (wVar 4) (wCons (wVar 9) wNil))) (wC .none))) (wB (wOp oNotN (wCall (Dn 2 (d_apart cE)) (wCons (wVar 9) (wCons (wVar 4) wNil))) (wC .none)))) (wRet (wC (.bool false))) wNext)
    (w__law_right_8 cE))
def w__law_right_10 (cE : Nat → Addr) : WpS := (wSeq (wAsg (wCall (Dn 3 d__law_qt_renumbered) (wCons (wVar 0) (wCons (wVar 4) (wCons (wC (.int 3)) wNil)))) (wgName 9))
    (w__law_right_9 cE))
def w__law_right_11 (cE : Nat → Addr) : WpS := (wSeq (wIfS (wOr (wB (wOp oNeA (wVar 7) (wVar 4))) (wB (wOp oNeA (wVar 8) (wVar 5)))) (wRet (wC (.bool false))) wNext)
    (w__law_right_10 cE))
def w__law_right_12 (cE : Nat → Addr) : WpS := (wSeq (wIfS (wOr (wB (wOp oNeA (wCB cRepr (wCons (wCall (Dn 2 (d_apart cE)) (wCons (wVar 7) (wCons (wVar 8) wNil))) wNil)) (wCB cRepr (wCons (wVar 6) wNil)))) (wB (wOp oNeA (wCB cRepr (wCons (wCall (Dn 2 (d_apart cE)) (wCons (wVar 8) (wCons (wVar 7) wNil))) wNil)) (wCB cRepr (wCons (wVar 6) wNil))))) (wRet (wC (.bool false))) wNext)
    (w__law_right_11 cE))
def w__law_right_13 (cE : Nat → Addr) : WpS := (wSeq (wPar 7 8 (wCons (wCall (Dn 1 d__law_qt_copy) (wCons (wVar 4) wNil)) (wCons (wCall (Dn 1 d__law_qt_copy) (wCons (wVar 5) wNil)) wNil)))
    (w__law_right_12 cE))
def w__law_right_14 (cE : Nat → Addr) : WpS := (wSeq (wAsg (wCall (apD [.int (0), .int (0)] (Dn 5 d__law_qt_first)) (wCons (wVar 4) (wCons (wVar 5) (wCons (wC (.bool false)) wNil)))) (wgName 6))
    (w__law_right_13 cE))
def w__law_right_15 (cE : Nat → Addr) : WpS := (wSeq (wAsg (wCall (Dn 4 d__law_qt_rival) (wCons (wVar 0) (wCons (wVar 4) (wCons (wVar 1) (wCons (wVar 2) wNil))))) (wgName 5))
    (w__law_right_14 cE))
def w__law_right_16 (cE : Nat → Addr) : WpS := (wSeq (wAsg (wCall (Dn 3 d__law_qt_sheet) (wCons (wVar 0) (wCons (wVar 3) (wCons (wVar 2) wNil)))) (wgName 4))
    (w__law_right_15 cE))
def w__law_right_17 (cE : Nat → Addr) : WpS := (wSeq (wAsg (wBM "str" mJoin (wC (.str "")) (wCons (wLc (wiA (wVar 1)) (wgName 13) (wB (wOp (oI CTrue gGt) (wCall (Dn 2 d__law_coin) (wCons (wVar 0) (wCons (wC (.int 4)) wNil))) (wC (.int 0)))) (wVar 13) [13]) wNil)) (wgName 3))
    (w__law_right_16 cE))
def w__law_right_18 (cE : Nat → Addr) : WpS := (wSeq (wAsg (wOp oIx (wLst (wCons (wC (.int 3)) (wCons (wC (.int 8)) (wCons (wC (.int 36)) wNil)))) (wCall (Dn 2 d__law_coin) (wCons (wVar 0) (wCons (wC (.int 3)) wNil)))) (wgName 2))
    (w__law_right_17 cE))
def w__law_right (cE : Nat → Addr) : WpS := (wSeq (wAsg (wCall (Dn 2 d__law_qt_letters) (wCons (wVar 0) (wCons (wOp oAdd (wC (.int 1)) (wCall (Dn 2 d__law_coin) (wCons (wVar 0) (wCons (wC (.int 6)) wNil)))) wNil))) (wgName 1))
    (w__law_right_18 cE))
theorem mut_ok {cE : Nat → Addr} {D : DE} {env : En} {μ : Mu} {c : Nat} {L E : List Nat} {R : Rows} {o : O} {k : Int} (g0 : env[0]? = some (some (.loc 0))) (g11 : env[11]? = some (some (.loc c))) (g12 : 12 < env.length) (h0 : μ[0]? = some o) (hp : Pur k o) (hk : k < 2 ^ 36) (tb : TB μ c L R E) (c0 : 0 < c) (ok : Tok L R E)
    (next : ∀ (t : T) (μ' : Mu) (o' : O) (R' : Rows) (E' : List Nat), Pur (k + 1) o' → μ'[0]? = some o' → (∀ n u, 0 < n → n < c ∨ c + 3 + R.length ≤ n → μ[n]? = some u → μ'[n]? = some u) → TB μ' c L R' E' → Tok L R' E' → R'.length = R.length → μ'.length = μ.length → w__law_right_3 cE D (env.set 12 (some t)) μ') :
    w__law_right_6 cE D env μ := by
  have rl := ok.rl
  have n0 := ok.gt.ne
  have l0 : 0 < μ.length := (List.getElem?_eq_some_iff.mp h0).1
  simp only [w__law_right_6, wSeq, wAsg, wCall, wCons, wNil, wCB, wOp, wVar, wC, g0, g11]
  refine oIx_tupl (t := .loc (c + 1)) tb.t (atI_nat (i := 1) rfl) ?_
  refine cLen_live tb.r ?_
  have lb : ((bls c R.length).map T.loc).length = R.length := by simp
  rw [lb]
  refine c_coin (k := k) h0 hp (by omega) (by omega) (by omega) fun r o1 r0 r1 p1 => ?_
  obtain ⟨i, rfl⟩ : ∃ i : Nat, r = i := ⟨r.toNat, by omega⟩
  have hi : i < R.length := by omega
  obtain ⟨μ1, hμ1⟩ : ∃ μ1, μ1 = μ.set 0 o1 := ⟨_, rfl⟩
  have h1 : μ1[0]? = some o1 := by rw [hμ1, List.getElem?_set_self l0]
  have tb1 : TB μ1 c L R E := by rw [hμ1]; exact tb.set (.inl c0)
  have l1 : μ1.length = μ.length := by rw [hμ1]; simp
  have kp1 : ∀ n u, 0 < n → μ[n]? = some u → μ1[n]? = some u := fun n u hn e => by rw [hμ1, List.getElem?_set_ne (by omega)]; exact e
  rw [← hμ1]
  simp only [wgName]
  obtain ⟨env2, he2⟩ : ∃ env2, env2 = env.set 12 (some (T.dat (.int ((i : Nat) : Int)))) := ⟨_, rfl⟩
  rw [← he2]
  have q11 : env2[11]? = some (some (.loc c)) := by rw [he2, List.getElem?_set_ne (by decide)]; exact g11
  have q12 : env2[12]? = some (some (.dat (.int ((i : Nat) : Int)))) := by rw [he2, List.getElem?_set_self g12]
  obtain ⟨row, hrow⟩ : ∃ row, R[i]? = some row := ⟨_, List.getElem?_eq_getElem hi⟩
  have erow : R.getD i [] = row := by rw [List.getD_eq_getElem?_getD, hrow]; rfl
  have bi : (bls c R.length)[i]? = some (c + 3 + i) := by simp [hi]
  have tr := tb1.row i (c + 3 + i) row bi hrow
  simp only [w__law_right_5, wSeq, wDrop, wBM, wNil, wOp, wVar, wC, q11, q12]
  refine oIx_tupl (t := .loc (c + 1)) tb1.t (atI_nat (i := 1) rfl) ?_
  refine oIx_live (t := .loc (c + 3 + i)) tb1.r (atI_nat (by rw [List.getElem?_map, bi]; rfl)) ?_
  refine ⟨tyT_live tr, rfl, ?_⟩
  simp only [onL, tr]
  obtain ⟨μ2, hμ2⟩ : ∃ μ2, μ2 = μ1.set (c + 3 + i) (.lst (dsi row).reverse) := ⟨_, rfl⟩
  rw [← hμ2]
  have l2 : μ2.length = μ.length := by rw [hμ2]; simp [l1]
  have lr : c + 3 + i < μ1.length := (List.getElem?_eq_some_iff.mp tr).1
  have kp2 : ∀ n u, n ≠ c + 3 + i → μ1[n]? = some u → μ2[n]? = some u := fun n u hn e => by rw [hμ2, List.getElem?_set_ne (Ne.symm hn)]; exact e
  have e2 : μ2[c + 2]? = some (.lst (dsi E)) := kp2 _ _ (by omega) tb1.e
  have t2 : μ2[c]? = some (.tup [.dat (.str (tz L)), .loc (c + 1), .loc (c + 2)]) := kp2 _ _ (by omega) tb1.t
  have rr2 : (dsi row).reverse = dsi row.reverse := by simp [dsi]
  have lR : (revR R i).length = R.length := by simp [revR]
  have row2 : ∀ (j l : Nat) (q : List Nat), (bls c R.length)[j]? = some l → (revR R i)[j]? = some q → μ2[l]? = some (.lst (dsi q)) := fun j l q hj hq => by
    have lj : j < R.length := by
      have := (List.getElem?_eq_some_iff.mp hj).1
      simpa using this
    have el : l = c + 3 + j := by simpa [lj] using hj.symm
    subst el
    by_cases e : i = j
    · subst e
      unfold revR at hq
      rw [List.getElem?_set_self hi, erow] at hq
      cases hq
      rw [hμ2, List.getElem?_set_self lr, rr2]
    · unfold revR at hq
      rw [List.getElem?_set_ne e] at hq
      exact kp2 _ _ (by omega) (tb1.row j _ q hj hq)
  have okN := rev_tok ok hi
  -- the end
  have fin : ∀ (μ3 : Mu), μ3.length = μ.length → (∀ n u, n ≠ c + 2 → μ2[n]? = some u → μ3[n]? = some u) → μ3[c + 2]? = some (.lst (dsi (E.erase i))) → w__law_right_3 cE D env2 μ3 := fun μ3 l3 kp3 e3 => by
    rw [he2]
    refine next _ μ3 o1 (revR R i) (E.erase i) p1 (kp3 _ _ (by omega) (kp2 _ _ (by omega) h1)) (fun n u hn ho e => kp3 _ _ (by omega) (kp2 _ _ (by omega) (kp1 _ _ hn e))) ⟨kp3 _ _ (by omega) t2, ?_, e3, by rw [lR]; simp, fun j l q hj hq => ?_⟩ okN lR l3
    · rw [lR]
      exact kp3 _ _ (by omega) (kp2 _ _ (by omega) tb1.r)
    · rw [lR] at hj
      have lj : j < R.length := by
        have := (List.getElem?_eq_some_iff.mp hj).1
        simpa using this
      have el : l = c + 3 + j := by simpa [lj] using hj.symm
      exact kp3 _ _ (by omega) (row2 j l q hj hq)
  simp only [w__law_right_4, wSeq, wIfS, wB, wOp, wVar, wC, q11, q12]
  refine oIx_tupl (t := .loc (c + 2)) t2 (atI_nat (i := 2) rfl) ?_
  refine oIn_n (rdQ_live e2) ?_
  simp only [asB, nm]
  by_cases m : i ∈ E
  · simp only [m, decide_true, if_true, wDrop, wBM, wCons, wNil, wOp, wVar, wC, q11, q12]
    refine oIx_tupl (t := .loc (c + 2)) t2 (atI_nat (i := 2) rfl) ?_
    refine ⟨tyT_live e2, ?_⟩
    simp only [mRemove, nm, onL, e2]
    refine ⟨E.map fun (x : Nat) => (x : Int), dsi_int E, List.mem_map.mpr ⟨i, m, rfl⟩, ?_⟩
    rw [erase_ints, ← dsi_int]
    have le : c + 2 < μ2.length := (List.getElem?_eq_some_iff.mp e2).1
    exact fin _ (by simp [l2]) (fun n u hn e => by rw [List.getElem?_set_ne (Ne.symm hn)]; exact e) (List.getElem?_set_self le)
  · simp only [m, decide_false, Bool.false_eq_true, if_false, wNext]
    refine fin μ2 l2 (fun n u _ e => e) ?_
    rw [List.erase_of_not_mem m]
    exact e2
/-! ### the store as it grows -/
theorem gstep {μ : Mu} (o : O) (L : List Nat) (R : Rows) (E : List Nat) (l0 : 0 < μ.length) : (μ.set 0 o ++ tabM μ.length L R E)[0]? = some o ∧ TB (μ.set 0 o ++ tabM μ.length L R E) μ.length L R E ∧ (μ.set 0 o ++ tabM μ.length L R E).length = μ.length + 3 + R.length ∧ ∀ (n : Nat) (u : O), 0 < n → μ[n]? = some u → (μ.set 0 o ++ tabM μ.length L R E)[n]? = some u := by
  have t := TB.new (μ.set 0 o) L R E []
  rw [List.append_nil, List.length_set] at t
  refine ⟨by rw [List.getElem?_append_left (by simpa using l0), List.getElem?_set_self l0], t, by simp; omega, fun n u hn e => ?_⟩
  have ln := (List.getElem?_eq_some_iff.mp e).1
  rw [List.getElem?_append_left (by simpa using ln), List.getElem?_set_ne (by omega)]
  exact e
theorem gcopy (μ : Mu) (L : List Nat) (R : Rows) (E : List Nat) : TB (μ ++ tabM μ.length L R E) μ.length L R E ∧ (μ ++ tabM μ.length L R E).length = μ.length + 3 + R.length ∧ ∀ (n : Nat) (u : O), μ[n]? = some u → (μ ++ tabM μ.length L R E)[n]? = some u := by
  have t := TB.new μ L R E []
  rw [List.append_nil] at t
  refine ⟨t, by simp; omega, fun n u e => ?_⟩
  rw [List.getElem?_append_left (List.getElem?_eq_some_iff.mp e).1]
  exact e
theorem chk_ok {cE : Nat → Addr} {D : DE} {env : En} {μ : Mu} {a b : Nat} {L E L' E' : List Nat} {R R' : Rows} {r : Option (List Nat)} (g6 : env[6]? = some (some (.dat (resD r)))) (g7 : env[7]? = some (some (.loc a))) (g8 : env[8]? = some (some (.loc b)))
    (ta : toD 8 μ (.loc a) = some (tabD L R E)) (tb : toD 8 μ (.loc b) = some (tabD L' R' E')) (ok : Tok L R E) (ok' : Tok L' R' E') (hr : First (picsL (L ++ L')) (Apt L R E L' R' E') r) (hw : ∀ w, r = some w → w.length ≤ 3721) (hD : D.nx env μ) :
    wIfS (wOr (wB (wOp oNeA (wCB cRepr (wCons (wCall (Dn 2 (d_apart cE)) (wCons (wVar 7) (wCons (wVar 8) wNil))) wNil)) (wCB cRepr (wCons (wVar 6) wNil)))) (wB (wOp oNeA (wCB cRepr (wCons (wCall (Dn 2 (d_apart cE)) (wCons (wVar 8) (wCons (wVar 7) wNil))) wNil)) (wCB cRepr (wCons (wVar 6) wNil))))) (wRet (wC (.bool false))) wNext D env μ := by
  have lo : Low (L ++ L') := fun d md => (List.mem_append.mp md).elim (ok.low d) (ok'.low d)
  have sh := (resD_gd lo hr hw).shw
  simp only [wIfS, wOr, wB, wOp, wCB, wCall, wCons, wNil, wVar, wC, g6, g7, g8]
  refine c_apart ta tb ok ok' fun q hq => ?_
  rw [first_one hq hr]
  refine c_reprD (toD_dat _ _ _) sh (c_reprD (toD_dat _ _ _) sh (neS ?_))
  simp only [asB, nm, Bool.false_eq_true, if_false]
  refine c_apart tb ta ok' ok fun q hq => ?_
  rw [first_one hq (first_swap hr)]
  refine c_reprD (toD_dat _ _ _) sh (c_reprD (toD_dat _ _ _) sh (neS ?_))
  simp only [asB, nm, Bool.false_eq_true, if_false, wNext]
  exact hD
def d__law_right : DSp := fun ts μ P _ => ∃ (o : O) (k : Int), ts = [.loc 0] ∧ μ = [o] ∧ Pur k o ∧ k < 2 ^ 33 ∧ ∀ o', Pur (k + 1000000) o' → P (.dat (.bool true)) [o']
/-- the two turns, and what is handed back -/
theorem turns_ok {cE : Nat → Addr} {PT : KT} {PX : KX} {μ : Mu} {a b : Nat} {L E L' E' : List Nat} {R R' : Rows} {o : O} {k : Int} {e1 e2 e3 e4 e5 e6 e9 e10 e11 e12 e13 : Option T} (h0 : μ[0]? = some o) (hp : Pur k o) (hk : k < 2 ^ 35) (ta : TB μ a L R E) (tb : TB μ b L' R' E') (a0 : 0 < a) (ab : a + 3 + R.length ≤ b)
    (ok : Tok L R E) (ok' : Tok L' R' E') (hP : ∀ o', Pur (k + 10) o' → PT (.dat (.bool true)) [o']) :
    w__law_right_8 cE (DEof 1 PT PX) [some (.loc 0), e1, e2, e3, e4, e5, e6, some (.loc a), some (.loc b), e9, e10, e11, e12, e13] μ := by
  have hs := sizeLine_ge
  simp only [w__law_right_8, wSeq]
  rw [wFor_eq]
  simp only [wiR1, wCons, wNil, wC, nm]
  refine ⟨by decide, by decide, ?_⟩
  obtain ⟨Inv, hI⟩ : ∃ Inv : Nat → En → Mu → Prop, Inv = fun i env μ' => ∃ (f6 f10 f11 f12 : Option T) (o' : O) (R1 : Rows) (E1 : List Nat) (R2 : Rows) (E2 : List Nat), env = [some (.loc 0), e1, e2, e3, e4, e5, f6, some (.loc a), some (.loc b), e9, f10, f11, f12, e13] ∧
    μ'[0]? = some o' ∧ Pur (k + 2 * (i : Nat)) o' ∧ TB μ' a L R1 E1 ∧ TB μ' b L' R2 E2 ∧ R1.length = R.length ∧ R2.length = R'.length ∧ Tok L R1 E1 ∧ Tok L' R2 E2 := ⟨_, rfl⟩
  refine ⟨Inv, by rw [hI]; exact ⟨_, _, _, _, o, R, E, R', E', rfl, h0, by simpa using hp, ta, tb, rfl, rfl, ok, ok'⟩, fun _ _ _ _ _ => trivial, fun i env μ' hi h => ?_, fun env μ' h => ?_⟩
  · have hi : i < 2 := hi
    rw [hI] at h
    obtain ⟨f6, f10, f11, f12, o1, R1, E1, R2, E2, rfl, h1, p1, t1, t2, l1, l2, ok1, ok2⟩ := h
    simp only [itR, wgName, List.set_cons_succ, List.set_cons_zero]
    have step : ∀ (D' : DE), D'.nx = Inv (i + 1) → w__law_right_7 cE D' [some (.loc 0), e1, e2, e3, e4, e5, f6, some (.loc a), some (.loc b), e9, some (.dat (.int (0 + (i : Nat)))), f11, f12, e13] μ' := fun D' hD => by
      simp only [w__law_right_7, wSeq, wAsg, wOp, wLst, wCall, wCons, wNil, wVar, wC, mkL, List.getElem?_cons_zero, List.getElem?_cons_succ]
      refine ⟨by simp; omega, ?_⟩
      have l0 : 0 < μ'.length := (List.getElem?_eq_some_iff.mp h1).1
      have h1' : (μ' ++ [O.lst [T.loc a, T.loc b]])[0]? = some o1 := by rw [List.getElem?_append_left l0]; exact h1
      refine c_coin (k := k + 2 * (i : Nat)) h1' p1 (by omega) (by decide) (by decide) fun r o2 r0 r1 p2 => ?_
      obtain ⟨μ2, hμ2⟩ : ∃ μ2, μ2 = (μ' ++ [O.lst [T.loc a, T.loc b]]).set 0 o2 := ⟨_, rfl⟩
      have up : ∀ n u, 0 < n → μ'[n]? = some u → μ2[n]? = some u := fun n u hn e => by
        rw [hμ2, List.getElem?_set_ne (by omega), List.getElem?_append_left (List.getElem?_eq_some_iff.mp e).1]
        exact e
      have h2 : μ2[0]? = some o2 := by rw [hμ2, List.getElem?_set_self (by simp)]
      have hl : μ2[μ'.length]? = some (.lst [T.loc a, T.loc b]) := by rw [hμ2, List.getElem?_set_ne (by omega)]; simp
      rw [← hμ2]
      replace t1 := t1.kp fun n u a1 _ e => up n u (by omega) e
      replace t2 := t2.kp fun n u a1 _ e => up n u (by omega) e
      -- the pair checked anew
      have chk : ∀ (t11 t12 : Option T) (μ3 : Mu) (o3 : O) (R3 : Rows) (E3 : List Nat) (R4 : Rows) (E4 : List Nat), Pur (k + 2 * (i : Nat) + 2) o3 → μ3[0]? = some o3 → TB μ3 a L R3 E3 → TB μ3 b L' R4 E4 → Tok L R3 E3 → Tok L' R4 E4 → R3.length = R.length → R4.length = R'.length →
          w__law_right_3 cE D' [some (.loc 0), e1, e2, e3, e4, e5, f6, some (.loc a), some (.loc b), e9, some (.dat (.int (0 + (i : Nat)))), t11, t12, e13] μ3 := fun t11 t12 μ3 o3 R3 E3 R4 E4 p3 h3 t3 t4 ok3 ok4 l3 l4 => by
        simp only [w__law_right_3, wSeq, wAsg, wCall, wCons, wNil, wVar, wC, List.getElem?_cons_zero, List.getElem?_cons_succ]
        refine c__law_qt_first (t3.toD (k := 5)) (t4.toD (k := 5)) ok3 ok4 fun q hq hw => ?_
        replace hq := first_iff (fun w _ => apt_false w) hq
        simp only [wgName, List.set_cons_succ, List.set_cons_zero]
        show w__law_right_2 cE _ _ μ3
        simp only [w__law_right_2]
        refine chk_ok rfl rfl rfl (t3.toD (k := 5)) (t4.toD (k := 5)) ok3 ok4 hq hw ?_
        rw [hD, hI]
        exact ⟨_, _, _, _, o3, R3, E3, R4, E4, rfl, h3, p3.mono (by push_cast; omega), t3, t4, l3, l4, ok3, ok4⟩
      obtain ⟨j, rfl⟩ : ∃ j : Nat, r = j := ⟨r.toNat, by omega⟩
      have hj : j = 0 ∨ j = 1 := by omega
      rcases hj with rfl | rfl
      · refine oIx_live (t := .loc a) hl (atI_nat rfl) ?_
        simp only [wgName, List.set_cons_succ, List.set_cons_zero]
        refine mut_ok (k := k + 2 * (i : Nat) + 1) rfl rfl (by simp) h2 p2 (by omega) t1 a0 ok1 fun t μ3 o3 R3 E3 p3 h3 kp t3 ok3 l3 _ => ?_
        exact chk _ _ μ3 o3 R3 E3 R2 E2 (p3.mono (by omega)) h3 t3 (t2.kp fun n u a1 a2 e => kp n u (by omega) (.inr (by omega)) e) ok3 ok2 (by omega) l2
      · refine oIx_live (t := .loc b) hl (atI_nat rfl) ?_
        simp only [wgName, List.set_cons_succ, List.set_cons_zero]
        refine mut_ok (k := k + 2 * (i : Nat) + 1) rfl rfl (by simp) h2 p2 (by omega) t2 (by omega) ok2 fun t μ3 o3 R3 E3 p3 h3 kp t3 ok3 l3 _ => ?_
        exact chk _ _ μ3 o3 R1 E1 R3 E3 (p3.mono (by omega)) h3 (t1.kp fun n u a1 a2 e => kp n u (by omega) (.inl (by omega)) e) t3 ok1 ok3 l1 (by omega)
    exact step _ rfl
  · have h : Inv 2 env μ' := h
    rw [hI] at h
    obtain ⟨f6, f10, f11, f12, o1, R1, E1, R2, E2, rfl, h1, p1, t1, t2, l1, l2, ok1, ok2⟩ := h
    simp only [w__law_right_1, wRet, wOp, wCall, wCons, wNil, wVar, wC, List.getElem?_cons_zero, List.getElem?_cons_succ]
    refine c_apart (t1.toD (k := 5)) (t1.toD (k := 5)) ok1 ok1 fun q hq => ?_
    rw [first_none (fun w _ => rfl) hq]
    refine ⟨rfl, ?_⟩
    cases μ' with
    | nil => simp at h1
    | cons x g =>
      cases h1
      exact end_pur p1 fun p => hP _ (p.mono (by omega))
theorem eqv_inz : ∀ xs : List Nat, PyData.eqvAll (inz xs) (inz xs) = true
  | [] => rfl
  | x :: xs => by
    show (PyData.eqv (.int (x : Nat)) (.int (x : Nat)) && PyData.eqvAll (inz xs) (inz xs)) = true
    rw [eqv_inz xs]
    simp [PyData.eqv]
theorem eqv_rwD : ∀ R : Rows, PyData.eqvAll (rwD R) (rwD R) = true
  | [] => rfl
  | r :: R => by
    show (PyData.eqv (.list (inz r)) (.list (inz r)) && PyData.eqvAll (rwD R) (rwD R)) = true
    rw [eqv_rwD R]
    simp [PyData.eqv, eqv_inz]
theorem eqv_tab (L : List Nat) (R : Rows) (E : List Nat) : PyData.eqv (tabD L R E) (tabD L R E) = true := by
  show PyData.eqvAll [.str (tz L), .list (rwD R), .list (inz E)] [.str (tz L), .list (rwD R), .list (inz E)] = true
  simp [PyData.eqvAll, PyData.eqv, eqv_inz, eqv_rwD]
theorem p__law_right (cE : Nat → Addr) (ts : List T) (μ : Mu) (PT : KT) (PX : KX) (h : d__law_right ts μ PT PX) : w__law_right cE (DEof μ.length PT PX) (startE 14 ts) μ := by
  obtain ⟨o, k, rfl, rfl, hp, hk, hP⟩ := h
  have hs := sizeLine_ge
  show w__law_right cE (DEof 1 PT PX) [some (.loc 0), none, none, none, none, none, none, none, none, none, none, none, none, none] [o]
  simp only [w__law_right, wSeq, wAsg, wOp, wCall, wCons, wNil, wVar, wC, List.getElem?_cons_zero]
  refine c_coin (k := k) rfl hp (by omega) (by decide) (by decide) fun r o1 r0 r1 p1 => ?_
  rw [oAdd_int]
  obtain ⟨n, en⟩ : ∃ n : Nat, (1 + r : Int) = n := ⟨(1 + r).toNat, by omega⟩
  rw [en]
  refine c_qt_letters (k := k + 1) rfl p1 (by omega) (by omega) fun o2 Ls p2 lo asc lLs => ?_
  simp only [wgName, List.set_cons_succ, List.set_cons_zero]
  show w__law_right_18 cE _ _ [o2]
  simp only [w__law_right_18, wSeq, wAsg, wOp, wLst, wCall, wCons, wNil, wVar, wC, mkL, List.getElem?_cons_zero]
  refine ⟨by simp; omega, ?_⟩
  refine c_coin (k := k + 8) rfl (p2.mono (by omega)) (by omega) (by decide) (by decide) fun r o3 r0 r1 p3 => ?_
  refine oIx_seq (ts := [.dat (.int 3), .dat (.int 8), .dat (.int 36)]) (rdQ_live rfl) r0 r1 fun t ht => ?_
  obtain ⟨high, rfl, n1, n2⟩ : ∃ n : Nat, t = .dat (.int (n : Nat)) ∧ 1 ≤ n ∧ n ≤ 36 := by
    simp at ht
    rcases ht with rfl | rfl | rfl <;> exact ⟨_, rfl, by decide, by decide⟩
  simp only [wgName, List.set_cons_succ, List.set_cons_zero]
  obtain ⟨μ, hμ⟩ : ∃ μ : Mu, μ = ([o2] ++ [O.lst [T.dat (.int 3), T.dat (.int 8), T.dat (.int 36)]]).set 0 o3 := ⟨_, rfl⟩
  have h0 : μ[0]? = some o3 := by rw [hμ]; rfl
  rw [← hμ]
  clear hμ
  show w__law_right_17 cE _ _ μ
  simp only [w__law_right_17, wSeq, wAsg]
  refine some_ok (x := 0) (i := 1) (j := 13) (m := 4) (Ls := Ls) (o := o3) (k := k + 9) rfl rfl (by decide) (by simp) h0 (p3.mono (by omega)) (by omega) (by omega) (by decide) (by decide) fun o4 L xs p4 sub => ?_
  have lL := sub.length_le
  have lowL : Low L := fun c m => lo c (sub.subset m)
  have ascL := asc.sublist sub
  have l0 : 0 < μ.length := (List.getElem?_eq_some_iff.mp h0).1
  replace h0 : (μ.set 0 o4 ++ [O.lst xs])[0]? = some o4 := by rw [List.getElem?_append_left (by simpa using l0), List.getElem?_set_self l0]
  generalize μ.set 0 o4 ++ [O.lst xs] = μ at h0
  simp only [wgName, List.set_cons_succ, List.set_cons_zero]
  show w__law_right_16 cE _ _ μ
  simp only [w__law_right_16, wSeq, wAsg, wCall, wCons, wNil, wVar, List.getElem?_cons_zero, List.getElem?_cons_succ]
  refine c_qt_sheet (k := k + 19) h0 (p4.mono (by omega)) (by omega) lowL ascL (by omega) n1 n2 fun o5 R E p5 ok rl => ?_
  obtain ⟨q0, tS, q1, -⟩ := gstep (μ := μ) o5 L R E (List.getElem?_eq_some_iff.mp h0).1
  obtain ⟨s, hs0⟩ : ∃ s, s = μ.length := ⟨_, rfl⟩
  have s0 : 0 < s := by rw [hs0]; exact (List.getElem?_eq_some_iff.mp h0).1
  rw [← hs0] at q0 tS q1 ⊢
  generalize μ.set 0 o5 ++ tabM s L R E = ν at q0 tS q1
  simp only [wgName, List.set_cons_succ, List.set_cons_zero]
  show w__law_right_15 cE _ _ ν
  simp only [w__law_right_15, wSeq, wAsg, wCall, wCons, wNil, wVar, List.getElem?_cons_zero, List.getElem?_cons_succ]
  refine c_qt_rival (k := k + 419) q0 (p5.mono (by omega)) (by omega) tS (.inl s0) ok (by omega) (by omega) lo asc (by omega) n1 n2 fun o6 L' R' E' p6 ok' rl' lL' => ?_
  obtain ⟨u0, tV, u1, kp⟩ := gstep (μ := ν) o6 L' R' E' (by omega)
  replace tS := tS.kp fun n u a1 _ e => kp n u (by omega) e
  obtain ⟨v, hv⟩ : ∃ v, v = ν.length := ⟨_, rfl⟩
  rw [← hv] at u0 tV u1 tS ⊢
  generalize ν.set 0 o6 ++ tabM v L' R' E' = μ at u0 tV u1 tS
  clear kp h0 q0
  simp only [wgName, List.set_cons_succ, List.set_cons_zero]
  show w__law_right_14 cE _ _ μ
  simp only [w__law_right_14, wSeq, wAsg, wCall, wCons, wNil, wVar, wC, List.getElem?_cons_zero, List.getElem?_cons_succ]
  refine c__law_qt_first (tS.toD (k := 5)) (tV.toD (k := 5)) ok ok' fun due hq hw => ?_
  replace hq := first_iff (fun w _ => apt_false w) hq
  simp only [wgName, List.set_cons_succ, List.set_cons_zero]
  show w__law_right_13 cE _ _ μ
  simp only [w__law_right_13, wSeq, wPar, wCall, wCons, wNil, wVar, List.getElem?_cons_zero, List.getElem?_cons_succ]
  refine c_qt_copy (tS.toD (k := 5)) (by omega) ?_
  obtain ⟨tA, a1, kp⟩ := gcopy μ L R E
  replace tS := tS.kp fun n u _ _ e => kp n u e
  replace tV := tV.kp fun n u _ _ e => kp n u e
  replace u0 := kp 0 _ u0
  obtain ⟨a, ha⟩ : ∃ a, a = μ.length := ⟨_, rfl⟩
  rw [← ha] at tA a1 tS tV u0 ⊢
  generalize μ ++ tabM a L R E = ν at tA a1 tS tV u0
  clear kp
  refine c_qt_copy (tV.toD (k := 5)) (by omega) ?_
  obtain ⟨tB, b1, kp⟩ := gcopy ν L' R' E'
  replace tS := tS.kp fun n u _ _ e => kp n u e
  replace tV := tV.kp fun n u _ _ e => kp n u e
  replace tA := tA.kp fun n u _ _ e => kp n u e
  replace u0 := kp 0 _ u0
  obtain ⟨b, hb⟩ : ∃ b, b = ν.length := ⟨_, rfl⟩
  rw [← hb] at tB b1 tS tV tA u0 ⊢
  generalize ν ++ tabM b L' R' E' = μ at tB b1 tS tV tA u0
  clear kp
  simp only [List.set_cons_succ, List.set_cons_zero]
  show w__law_right_12 cE _ _ μ
  simp only [w__law_right_12, wSeq]
  refine chk_ok rfl rfl rfl (tA.toD (k := 5)) (tB.toD (k := 5)) ok ok' hq hw ?_
  simp only [w__law_right_11, wSeq, wIfS, wOr, wB, wOp, wVar, wC, List.getElem?_cons_zero, List.getElem?_cons_succ]
  refine oNeA_dd (tA.toD (k := 5)) (tS.toD (k := 5)) ok.tg.gd.shp ok.tg.gd.shp ?_
  rw [eqv_tab]
  simp only [asB, nm, Bool.not_true, Bool.false_eq_true, if_false]
  refine oNeA_dd (tB.toD (k := 5)) (tV.toD (k := 5)) ok'.tg.gd.shp ok'.tg.gd.shp ?_
  rw [eqv_tab]
  simp only [asB, nm, Bool.not_true, Bool.false_eq_true, if_false, wNext]
  show w__law_right_10 cE _ _ μ
  simp only [w__law_right_10, wSeq, wAsg, wCall, wCons, wNil, wVar, wC, List.getElem?_cons_zero, List.getElem?_cons_succ]
  refine c_qt_renumbered (k := k + 2419) (extra := 3) u0 (p6.mono (by omega)) (by omega) tS (.inl s0) ok (by omega) (by omega) (by decide) fun o7 R2 E2 p7 ok2 l2 lq => ?_
  obtain ⟨m0, tM, m1, kp⟩ := gstep (μ := μ) o7 L R2 E2 (by omega)
  replace tS := tS.kp fun n u a1 _ e => kp n u (by omega) e
  replace tA := tA.kp fun n u a1 _ e => kp n u (by omega) e
  replace tB := tB.kp fun n u a1 _ e => kp n u (by omega) e
  generalize μ.set 0 o7 ++ tabM μ.length L R2 E2 = ν at m0 tM m1 tS tA tB
  simp only [wgName, List.set_cons_succ, List.set_cons_zero]
  show w__law_right_9 cE _ _ ν
  have same := lq_in ok ok2 lq
  simp only [w__law_right_9, wSeq, wIfS, wOr, wB, wOp, wCall, wCons, wNil, wVar, wC, List.getElem?_cons_zero, List.getElem?_cons_succ]
  refine c_apart (tS.toD (k := 5)) (tM.toD (k := 5)) ok ok2 fun q hq2 => ?_
  rw [first_none same hq2]
  refine ⟨rfl, ?_⟩
  simp only [resD, isNoneT, asB, nm, Bool.not_true, Bool.false_eq_true, if_false]
  refine c_apart (tM.toD (k := 5)) (tS.toD (k := 5)) ok2 ok fun q hq2 => ?_
  rw [first_none (fun w ow => (same w ow).symm) hq2]
  refine ⟨rfl, ?_⟩
  simp only [resD, isNoneT, asB, nm, Bool.not_true, Bool.false_eq_true, if_false, wNext]
  exact turns_ok (k := k + 3419) m0 (p7.mono (by omega)) (by omega) tA tB (by omega) (by omega) ok ok' fun o' p => hP o' (p.mono (by omega))
theorem c_right {n : Nat} {o : O} {k : Int} {μ : Mu} {P : KT} {PX : KX} (h : μ[n]? = some o) (hp : Pur k o) (hk : k < 2 ^ 33) (hP : ∀ o', Pur (k + 1000000) o' → P (.dat (.bool true)) (μ.set n o')) : callD (Dn 1 d__law_right) [.loc n] μ P PX := by
  refine call1 (ds := []) h (fun f => hp.ren f) hp.nm ⟨rfl, o, k, rfl, rfl, hp, hk, fun o' p => ?_⟩
  simpa [setAll, p.ren, T.ren] using hP o' p
def d_law : DSp := fun ts μ P _ => ∃ (ns : List Int), ts = [.dat (.list (ns.map PyData.int))] ∧ μ = [] ∧ ns.length ≤ 63 ∧ P (.dat (.bool true)) []
def w_law_1 : WpS := (wRet (wC (.bool true)))
def w_law_2 : WpS := (wIfS (wNot (wTru (wCall (Dn 1 d__law_right) (wCons (wVar 2) wNil)))) (wRet (wC (.bool false))) wNext)
def w_law_3 : WpS := (wSeq (wAsg (wCall (Dn 2 d__law_purse) (wCons (wVar 0) (wCons (wVar 1) wNil))) (wgName 2))
    w_law_2)
def w_law : WpS := (wSeq (wFor (wiR1 (wCons (wCB (cI2 gMax) (wCons (wC (.int 1)) (wCons (wCB (cI2 gMin) (wCons (wC (.int 8)) (wCons (wCB cLen (wCons (wVar 0) wNil)) wNil))) wNil))) wNil)) (wgName 1) w_law_3)
    w_law_1)
theorem p_law (ts : List T) (μ : Mu) (PT : KT) (PX : KX) (h : d_law ts μ PT PX) : w_law (DEof μ.length PT PX) (startE 3 ts) μ := by
  obtain ⟨ns, rfl, rfl, hl, hP⟩ := h
  have hs := sizeLine_ge
  simp [w_law, DE.px, wSeq, wIfS, wB, wOp, wVar, wC, startE, asB, nm_dat, nm, oI, rdQ, rdL, rdT, wAsg, wgName, wgSub, wRet, wRetN, wNext, wDrop, wCall, wCB, wPar, wBM, tyT, wSl, wPart, wNoPart, wgTup, wgCons, wgNil, wCons, wNil, cInt, itR, itT, itS, itL, wiR1, wiR2, wiT, wiS, wiL, wLc_eq, wFor_eq, wYes, wipeE, oAdd_int, oEqA_int', oEqA_str', oNeA_str', CTrue, gGt, gMul, gMod, gPow, gDiv, gSub, gLt, gLe, gGe, gAdd, gNeg, gMax, gMin, gAbs, cI1, cI2, wUn, uI, wIf, wTru, asTru, truT, wNot, wAnd, wOr, wAndV, wOrV, wNotV, wLst, wTup, mkL, nm, wStarA, wRev, wPar3, wSetF, wFld, rdI, putT, wProp, wMake, wMeth, wSortSet, List.lookup, cLen, lenT]
  refine ⟨?_, ?_, fun i env μ => (∃ a1 a2, env = [some (.dat (.list (ns.map PyData.int))), a1, a2]), ⟨none, none, rfl⟩, fun _ _ _ _ _ => trivial, ?_, ?_⟩
  · split <;> omega
  · split <;> omega
  · rintro i env μ hi ⟨a1, a2, rfl⟩
    have hi : i ≤ 63 := by
      have hi : i < (if 1 < if (ns.length : Int) < 8 then (ns.length : Int) else 8 then if (ns.length : Int) < 8 then (ns.length : Int) else 8 else 1).toNat := hi
      split at hi <;> omega
    simp [w_law_3, DE.px, wSeq, wIfS, wB, wOp, wVar, wC, startE, asB, nm_dat, nm, oI, rdQ, rdL, rdT, wAsg, wgName, wgSub, wRet, wRetN, wNext, wDrop, wCall, wCB, wPar, wBM, tyT, wSl, wPart, wNoPart, wgTup, wgCons, wgNil, wCons, wNil, cInt, itR, itT, itS, itL, wiR1, wiR2, wiT, wiS, wiL, wLc_eq, wFor_eq, wYes, wipeE, oAdd_int, oEqA_int', oEqA_str', oNeA_str', CTrue, gGt, gMul, gMod, gPow, gDiv, gSub, gLt, gLe, gGe, gAdd, gNeg, gMax, gMin, gAbs, cI1, cI2, wUn, uI, wIf, wTru, asTru, truT, wNot, wAnd, wOr, wAndV, wOrV, wNotV, wLst, wTup, mkL, nm, wStarA, wRev, wPar3, wSetF, wFld, rdI, putT, wProp, wMake, wMeth, wSortSet, List.lookup]
    refine c_qpurse hi hl fun o p => ?_
    simp [w_law_2, DE.px, wSeq, wIfS, wB, wOp, wVar, wC, startE, asB, nm_dat, nm, oI, rdQ, rdL, rdT, wAsg, wgName, wgSub, wRet, wRetN, wNext, wDrop, wCall, wCB, wPar, wBM, tyT, wSl, wPart, wNoPart, wgTup, wgCons, wgNil, wCons, wNil, cInt, itR, itT, itS, itL, wiR1, wiR2, wiT, wiS, wiL, wLc_eq, wFor_eq, wYes, wipeE, oAdd_int, oEqA_int', oEqA_str', oNeA_str', CTrue, gGt, gMul, gMod, gPow, gDiv, gSub, gLt, gLe, gGe, gAdd, gNeg, gMax, gMin, gAbs, cI1, cI2, wUn, uI, wIf, wTru, asTru, truT, wNot, wAnd, wOr, wAndV, wOrV, wNotV, wLst, wTup, mkL, nm, wStarA, wRev, wPar3, wSetF, wFld, rdI, putT, wProp, wMake, wMeth, wSortSet, List.lookup]
    refine c_right (n := μ.length) (k := 0) (by simp) p (by omega) fun o' p' => ?_
    simp [DE.px, wSeq, wIfS, wB, wOp, wVar, wC, startE, asB, nm_dat, nm, oI, rdQ, rdL, rdT, wAsg, wgName, wgSub, wRet, wRetN, wNext, wDrop, wCall, wCB, wPar, wBM, tyT, wSl, wPart, wNoPart, wgTup, wgCons, wgNil, wCons, wNil, cInt, itR, itT, itS, itL, wiR1, wiR2, wiT, wiS, wiL, wLc_eq, wFor_eq, wYes, wipeE, oAdd_int, oEqA_int', oEqA_str', oNeA_str', CTrue, gGt, gMul, gMod, gPow, gDiv, gSub, gLt, gLe, gGe, gAdd, gNeg, gMax, gMin, gAbs, cI1, cI2, wUn, uI, wIf, wTru, asTru, truT, wNot, wAnd, wOr, wAndV, wOrV, wNotV, wLst, wTup, mkL, nm, wStarA, wRev, wPar3, wSetF, wFld, rdI, putT, wProp, wMake, wMeth, wSortSet, List.lookup]
  · rintro env μ ⟨a1, a2, rfl⟩
    exact end_dat (d := .bool true) (Nat.zero_le _) rfl hP (fun o' ho => by simp at ho)
end DL.K18
namespace DL.K18
open PySem PySem.Spec L2
open He (ga ma)
theorem F_err {P : Program} {w : World} {K : PySem.W.Frag} {mg : Str → Option Value} {base : Heap} {fd : FuncData} (bV : mg "ValueError" = none) (vV : PySem.W.findCls K (.type "ValueError") (.type "type") "__init__" = some (.val (.builtin "ValueError.__init__")))
    (F : Fun K "__init__" "FilmError.__init__" sErr (fI K) fd) : FnOk P w K mg base CX0 1 (fI K) fd ["self", "value"] (spErrK K (fI K)) := by
  refine F.ok (N := ["self", "value"]) ⟨rfl, rfl, rfl, by decide +kernel, rfl, by decide +kernel, by decide +kernel⟩ (fun vs H Q E h => ?_) (fun cdv A outer s H vs Q E hr h => ⟨tSeq (tDrop (tVeI K (tCons (tVar 0) (tCons (tC (.str "not possible with these films")) tNil)))) (tOst K "value" (tVar 0) (tVar 1)), PSs.nox ?_, ?_⟩)
  · obtain ⟨a, C, v, rfl, _⟩ := h
    rfl
  · exact pss_cons (ps_expr (pe_veinit rfl bV vV (pa_cons (pv 0) (pa_cons pe_str pa_nil)))) (pss_one (ps_ost (pv 0) (pv 1)))
  · obtain ⟨a, C, v, rfl, T, ha, q⟩ := h
    refine ⟨_, rfl, a, C, _, rfl, by simp, T.ox, ha, ?_⟩
    exact ⟨_, rfl, _, rfl, a, C, rfl, T.ox, T.nv, .inl ⟨ha, q⟩⟩
section
variable {P : Program} {w : World} {K : PySem.W.Frag} {mg : Str → Option Value} {base : Heap}
theorem G_first_text {fd : FuncData} (T : Tx K mg) (F : Fun K "first_text" "first_text" s_first_text (ga K "first_text") fd) : FnG P w K mg base 9 (ga K "first_text") fd ["nodes", "steps", "pictures", "is_goal"] (toSp K (Dn 4 (d_first_text (pN P w K mg base)))) := by
  refine FnD.ok (k := 8) F sc_first_text (fun ts μ PT PX h => h.1) (ws := (w_first_text (pN P w K mg base))) (fun cdv A outer s H E hr hgd => ?_) (fun ts μ PT PX h => p_first_text (pN P w K mg base) ts μ PT PX h.2)
  have hu := hr.units
  exact body_of (fun tk hp => (jb_cons (js_setDc (i := 4) (own := [("node", 5)]) rfl sc_first_text.nd (by exact Nat.lt_of_le_of_lt (Nat.le_add_right _ 64) hu) (ji_any (jv 0)) (blkOk_by (own := [("node", 5)]) (N := N_first_text) (sc := defScope s_first_text) (by decide +kernel)) (fun _ _ _ _ _ => pg_name (i := 5) sc_first_text.nd rfl (by first | exact Or.inl rfl | exact Or.inr rfl)) sg_name (ow_name (by decide)) (fun _ _ _ _ _ => jts_nil) (fun _ _ _ _ _ => (jv 5)) (fun _ _ _ _ _ => j_bl) (sw_dict rfl rfl rfl (by decide +kernel)))
    (jb_cons (js_set (i := 6) sc_first_text.nd (je_lst (ja_cons (je_tup (ja_cons j_str (ja_cons (je_callTy (call_listDD rfl) c_listDD T.b_list (by decide +kernel) (ja_cons (jv 4) ja_nil)) ja_nil))) ja_nil)))
    (jb_cons (js_while hp (jt_cmp (op_neA hu) s_neA (jv 6) (je_lst ja_nil) (nomark _)) (jb_cons (js_for hp rfl (ji_any (jv 6)) (jg_tup rfl (jg_cons (jg_name (i := 7) sc_first_text.nd) (jg_cons (jg_name (i := 8) sc_first_text.nd) jg_nil))) (jb_one (js_if (jt_tru (je_callB (cr_any rfl) c_any T.b_any (by decide +kernel) (ja_cons (je_lc (own := [("node", 5)]) rfl sc_first_text.nd (ji_any (jv 8)) (blkOk_by (own := [("node", 5)]) (N := N_first_text) (sc := defScope s_first_text) (by decide +kernel)) (fun _ _ _ _ _ => pg_name (i := 5) sc_first_text.nd rfl (by first | exact Or.inl rfl | exact Or.inr rfl)) sg_name (ow_name (by decide)) (fun _ _ _ _ _ => jts_nil) (fun _ _ _ _ _ => (je_callV (k := 8) (n := 1) (i := 3) hr hgd takes0 (ja_cons (jv 5) ja_nil)))) ja_nil))) (jb_one (js_ret (jv 7))) jb_nil)))
    (jb_cons (js_set (i := 9) sc_first_text.nd (je_lst ja_nil))
    (jb_cons (js_for hp rfl (ji_any (jv 6)) (jg_tup rfl (jg_cons (jg_name (i := 7) sc_first_text.nd) (jg_cons (jg_name (i := 8) sc_first_text.nd) jg_nil))) (jb_one (js_for hp rfl (ji_any (jv 2)) (jg_name (i := 10) sc_first_text.nd) (jb_cons (js_set (i := 11) sc_first_text.nd (je_lst ja_nil))
    (jb_cons (js_for hp rfl (ji_any (jv 8)) (jg_name (i := 5) sc_first_text.nd) (jb_one (js_for hp rfl (ji_any (je_callV (k := 8) (n := 2) (i := 1) hr hgd tk (ja_cons (jv 5) (ja_cons (jv 10) ja_nil)))) (jg_name (i := 12) sc_first_text.nd) (jb_one (js_if (jt_cmp (op_notInD (room1 hu)) s_notInD (jv 12) (jv 4) rfl) (jb_cons (js_asg j_bl (jg_sub (W := WF) (jv 4) (jv 12) (set_dict (room1 hu)) s_dset))
    (jb_one (js_expr (je_bm PySem.F.plainAttrs_list PySem.F.slot_list_append PySem.F.type_list_append mt_append m_append (jv 11) (ja_cons (jv 12) ja_nil))))) jb_nil)))))
    (jb_one (js_if (jt_cmp (op_neA hu) s_neA (jv 11) (je_lst ja_nil) (nomark _)) (jb_one (js_expr (je_bm PySem.F.plainAttrs_list PySem.F.slot_list_append PySem.F.type_list_append mt_append m_append (jv 9) (ja_cons (je_tup (ja_cons (j_op op_addA s_addA (jv 7) (jv 10)) (ja_cons (jv 11) ja_nil))) ja_nil)))) jb_nil)))))))
    (jb_one (js_set (i := 6) sc_first_text.nd (jv 9)))))))
    (jb_one (js_ret j_non)))))) (takes_of rfl rfl rfl rfl) (passes_of rfl)
theorem D_first_text (T : Tx K mg) : Def1 P w K mg base "first_text" 9 (Dn 4 (d_first_text (pN P w K mg base))) := by
  obtain ⟨fd, F⟩ := T.f_first_text
  exact ⟨_, fd, ["nodes", "steps", "pictures", "is_goal"], G_first_text T F, T.m_first_text, F.kp, binds_of F fun _ _ _ _ _ _ us hl => match us, hl with | [_, _, _, _], _ => rfl⟩
theorem G_is_rising {fd : FuncData} (T : Tx K mg) (F : Fun K "is_rising" "is_rising" s_is_rising (ga K "is_rising") fd) : FnG P w K mg base 1 (ga K "is_rising") fd ["numbers", "many"] (toSp K (Dn 2 d_is_rising)) := by
  refine FnD.ok (k := 0) F sc_is_rising (fun ts μ PT PX h => h.1) (ws := w_is_rising) (fun cdv A outer s H E hr hgd => ?_) (fun ts μ PT PX h => p_is_rising ts μ PT PX h.2)
  have hu := hr.units
  exact body_of (fun tk hp => (jb_cons (js_set (i := 2) sc_is_rising.nd (je_callB (cr_all rfl) c_all T.b_all (by decide +kernel) (ja_cons (je_lc (own := [("number", 3)]) rfl sc_is_rising.nd (ji_any (jv 0)) (blkOk_by (own := [("number", 3)]) (N := N_is_rising) (sc := defScope s_is_rising) (by decide +kernel)) (fun _ _ _ _ _ => pg_name (i := 3) sc_is_rising.nd rfl (by first | exact Or.inl rfl | exact Or.inr rfl)) sg_name (ow_name (by decide)) (fun _ _ _ _ _ => jts_nil) (fun _ _ _ _ _ => (j_chain op_le s_le op_lt s_lt j_int (jv 3) (jv 1)))) ja_nil)))
    (jb_one (js_ret (je_andT (jv 2) (je_one (je_callB (cr_all rfl) c_all T.b_all (by decide +kernel) (ja_cons (je_lc (own := [("left", 4), ("right", 5)]) rfl sc_is_rising.nd (ji_zip2 T.b_zip (ja_cons (jv 0) (ja_cons (je_slice (jv 0) (jo_some j_int) jo_none) ja_nil))) (blkOk_by (own := [("left", 4), ("right", 5)]) (N := N_is_rising) (sc := defScope s_is_rising) (by decide +kernel)) (fun _ _ _ _ _ => pg_tup rfl (pgs_cons (pg_name (i := 4) sc_is_rising.nd rfl (by first | exact Or.inl rfl | exact Or.inr rfl)) (pgs_cons (pg_name (i := 5) sc_is_rising.nd rfl (by first | exact Or.inl rfl | exact Or.inr rfl)) pgs_nil))) (sg_tup (sg_cons sg_name (sg_cons sg_name sg_nil))) (ow_tup (ow_cons mon_name (ow_name (by decide)) (ow_cons mon_name (ow_name (by decide)) ow_nil))) (fun _ _ _ _ _ => jts_nil) (fun _ _ _ _ _ => (j_cmp op_lt s_lt (jv 4) (jv 5) (nomark _)))) ja_nil)))))))) (takes_of rfl rfl rfl rfl) (passes_of rfl)
theorem D_is_rising (T : Tx K mg) : Def1 P w K mg base "is_rising" 1 (Dn 2 d_is_rising) := by
  obtain ⟨fd, F⟩ := T.f_is_rising
  exact ⟨_, fd, ["numbers", "many"], G_is_rising T F, T.m_is_rising, F.kp, binds_of F fun _ _ _ _ _ _ us hl => match us, hl with | [_, _], _ => rfl⟩
theorem G_check_table {fd : FuncData} (T : Tx K mg) (F : Fun K "check_table" "check_table" s_check_table (ga K "check_table") fd) : FnG P w K mg base 3 (ga K "check_table") fd ["told"] (toSp K (Dn 1 (d_check_table (cE K)))) := by
  have D_is_rising := D_is_rising (P := P) (w := w) (base := base) T
  obtain ⟨fdE, FE⟩ := T.f_FilmError___init__
  have F_err := F_err (P := P) (w := w) (base := base) T.b_ValueError T.vei FE
  have bi_err : Binds K fdE ["self", "value"] [] := binds_of FE fun _ _ _ _ _ _ us hl => match us, hl with | [_, _], _ => rfl
  have bk_err : KBn K fdE ["self", "value"] 1 [("value" : Str)] (fun us ws => us ++ ws) (fun vs zs => vs ++ zs) := kb_of FE 1 [("value" : Str)] (fun us ws => us ++ ws) (fun r1 r2 => r1.append r2) fun _ _ _ _ _ _ us ws l1 l2 => match us, ws, l1, l2 with | [_], [_], _, _ => rfl
  refine FnD.ok (k := 2) F sc_check_table (fun ts μ PT PX h => h.1) (ws := (w_check_table (cE K))) (fun cdv A outer s H E hr hgd => ?_) (fun ts μ PT PX h => p_check_table (cE K) ts μ PT PX h.2)
  have hu := hr.units
  exact body_of (fun tk hp => (jb_cons (js_asg (jv 0) (jg_tup rfl (jg_cons (jg_name (i := 1) sc_check_table.nd) (jg_cons (jg_name (i := 2) sc_check_table.nd) (jg_cons (jg_name (i := 3) sc_check_table.nd) jg_nil)))))
    (jb_cons (js_setLc (i := 4) (own := [("sign", 7)]) rfl sc_check_table.nd (ji_any (jv 1)) (blkOk_by (own := [("sign", 7)]) (N := N_check_table) (sc := defScope s_check_table) (by decide +kernel)) (fun _ _ _ _ _ => pg_name (i := 7) sc_check_table.nd rfl (by first | exact Or.inl rfl | exact Or.inr rfl)) sg_name (ow_name (by decide)) (fun _ _ _ _ _ => jts_nil) (fun _ _ _ _ _ => (je_bm PySem.F.plainAttrs_str PySem.F.slot_str_find PySem.F.type_str_find mt_find m_find (j_globS' T.g_PICTURES) (ja_cons (jv 7) ja_nil))) (sw_true rfl rfl rfl (by decide +kernel)))
    (jb_cons (js_set (i := 5) sc_check_table.nd (je_and (j_cmp (op_neA hu) s_neA (jv 2) (je_lst ja_nil) (nomark _)) (je_and (je_def D_is_rising hr hgd tk (ja_cons (jv 4) (ja_cons (je_callB call_lenA c_len T.b_len (by decide +kernel) (ja_cons (j_globS' T.g_PICTURES) ja_nil)) ja_nil))) (je_one (je_def D_is_rising hr hgd tk (ja_cons (jv 3) (ja_cons (je_callB call_lenA c_len T.b_len (by decide +kernel) (ja_cons (jv 2) ja_nil)) ja_nil)))))))
    (jb_cons (js_for hp rfl (ji_any (jv 2)) (jg_name (i := 6) sc_check_table.nd) (jb_one (js_if (JW.jt (jw_or (jt_cmp (op_neA hu) s_neA (je_callB call_lenA c_len T.b_len (by decide +kernel) (ja_cons (jv 6) ja_nil)) (je_callB call_lenA c_len T.b_len (by decide +kernel) (ja_cons (jv 1) ja_nil)) (nomark _)) (jw_or1 (jt_not (jt_tru (je_callB (cr_all rfl) c_all T.b_all (by decide +kernel) (ja_cons (je_lc (own := [("goal", 8)]) rfl sc_check_table.nd (ji_any (jv 6)) (blkOk_by (own := [("goal", 8)]) (N := N_check_table) (sc := defScope s_check_table) (by decide +kernel)) (fun _ _ _ _ _ => pg_name (i := 8) sc_check_table.nd rfl (by first | exact Or.inl rfl | exact Or.inr rfl)) sg_name (ow_name (by decide)) (fun _ _ _ _ _ => jts_nil) (fun _ _ _ _ _ => (j_chain op_le s_le op_lt s_lt j_int (jv 8) (je_callB call_lenA c_len T.b_len (by decide +kernel) (ja_cons (jv 2) ja_nil))))) ja_nil))))))) (jb_one (js_set (i := 5) sc_check_table.nd j_bl)) jb_nil)))
    (jb_one (js_if (jt_not (jt_tru (jv 5))) (jb_one (js_raise rfl tk T.e_InvalidTable F_err (hr.mono (by decide)) bi_err T.m_InvalidTable (ja_cons (je_tup (ja_cons (jv 1) (ja_cons (je_lc (own := [("row", 6)]) rfl sc_check_table.nd (ji_any (jv 2)) (blkOk_by (own := [("row", 6)]) (N := N_check_table) (sc := defScope s_check_table) (by decide +kernel)) (fun _ _ _ _ _ => pg_name (i := 6) sc_check_table.nd rfl (by first | exact Or.inl rfl | exact Or.inr rfl)) sg_name (ow_name (by decide)) (fun _ _ _ _ _ => jts_nil) (fun _ _ _ _ _ => (je_callTy call_list_of c_list T.b_list (by decide +kernel) (ja_cons (jv 6) ja_nil)))) (ja_cons (je_callTy call_list_of c_list T.b_list (by decide +kernel) (ja_cons (jv 3) ja_nil)) ja_nil)))) ja_nil))) jb_nil))))))) (takes_of rfl rfl rfl rfl) (passes_of rfl)
theorem D_check_table (T : Tx K mg) : Def1 P w K mg base "check_table" 3 (Dn 1 (d_check_table (cE K))) := by
  obtain ⟨fd, F⟩ := T.f_check_table
  exact ⟨_, fd, ["told"], G_check_table T F, T.m_check_table, F.kp, binds_of F fun _ _ _ _ _ _ us hl => match us, hl with | [_], _ => rfl⟩
theorem G_next_state {fd : FuncData} (T : Tx K mg) (F : Fun K "next_state" "next_state" s_next_state (ga K "next_state") fd) : FnG P w K mg base 1 (ga K "next_state") fd ["told", "state", "picture"] (toSp K (Dn 3 d_next_state)) := by
  refine FnD.ok (k := 0) F sc_next_state (fun ts μ PT PX h => h.1) (ws := w_next_state) (fun cdv A outer s H E hr hgd => ?_) (fun ts μ PT PX h => p_next_state ts μ PT PX h.2)
  have hu := hr.units
  exact body_of (fun tk hp => (jb_cons (js_set (i := 3) sc_next_state.nd (je_bm PySem.F.plainAttrs_str PySem.F.slot_str_find PySem.F.type_str_find mt_find m_find (je_ix ix_seq s_ix (jv 0) j_int) (ja_cons (jv 2) ja_nil)))
    (jb_one (js_ret (je_if (JW.jt (jw_or (jt_cmp (op_eqA hu) s_eqA (jv 1) (j_globI' T.g_GONE) (nomark _)) (jw_or1 (jt_cmp op_lt s_lt (jv 3) j_int (nomark _))))) (j_globI' T.g_GONE) (je_ix ix_seq s_ix (je_ix ix_seq s_ix (je_ix ix_seq s_ix (jv 0) j_int) (jv 1)) (jv 3))))))) (takes_of rfl rfl rfl rfl) (passes_of rfl)
theorem D_next_state (T : Tx K mg) : Def1 P w K mg base "next_state" 1 (Dn 3 d_next_state) := by
  obtain ⟨fd, F⟩ := T.f_next_state
  exact ⟨_, fd, ["told", "state", "picture"], G_next_state T F, T.m_next_state, F.kp, binds_of F fun _ _ _ _ _ _ us hl => match us, hl with | [_, _, _], _ => rfl⟩
theorem G_first_apart_steps {bb : Heap} (T : Tx K mg) {f c' : Addr} {q : Str} {cl : List (Str × Addr)} {ws : List V} (C : CB bb cl ["one", "other"] ws) : NG P w K mg bb 2 f (NdefX.NF.of n_first_apart_steps "steps" q cl c') 2 (fun vs H Q E => toSp K (Dn 4 d_first_apart_steps) (vs ++ ws) H Q E) := by
  have D_next_state := D_next_state (P := P) (w := w) (base := bb) T
  refine ND.ok (k := 1) (N := N_first_apart_steps) (ps := ["node", "picture"]) (fr := ["one", "other"]) sc_first_apart_steps (fun doc pm ctv us hl => match us, hl with | [_, _], _ => rfl) C (fun ts μ PT PX h => h.1) (wsb := w_first_apart_steps) (fun A outer s H E hr hgd => ?_) (fun ts μ PT PX h => p_first_apart_steps ts μ PT PX h.2)
  have hu := hr.units
  exact body_of (fun tk hp => (jb_cons (js_set (i := 4) sc_first_apart_steps.nd (je_tup (ja_cons (je_def D_next_state hr hgd tk (ja_cons (jv 2) (ja_cons (je_ix ix_seq s_ix (jv 0) j_int) (ja_cons (jv 1) ja_nil)))) (ja_cons (je_def D_next_state hr hgd tk (ja_cons (jv 3) (ja_cons (je_ix ix_seq s_ix (jv 0) j_int) (ja_cons (jv 1) ja_nil)))) ja_nil))))
    (jb_one (js_ret (je_if (jt_cmp (op_eqA hu) s_eqA (jv 4) (je_tup (ja_cons (j_globI' T.g_GONE) (ja_cons (j_globI' T.g_GONE) ja_nil))) (nomark _)) (je_lst ja_nil) (je_lst (ja_cons (jv 4) ja_nil))))))) (takes_of rfl rfl rfl rfl) (passes_of rfl)
theorem G_first_apart_is_goal {bb : Heap} (T : Tx K mg) {f c' : Addr} {q : Str} {cl : List (Str × Addr)} {ws : List V} (C : CB bb cl ["one", "other"] ws) : NG P w K mg bb 1 f (NdefX.NF.of n_first_apart_is_goal "is_goal" q cl c') 1 (fun vs H Q E => toSp K (Dn 3 d_first_apart_is_goal) (vs ++ ws) H Q E) := by
  refine ND.ok (k := 0) (N := N_first_apart_is_goal) (ps := ["node"]) (fr := ["one", "other"]) sc_first_apart_is_goal (fun doc pm ctv us hl => match us, hl with | [_], _ => rfl) C (fun ts μ PT PX h => h.1) (wsb := w_first_apart_is_goal) (fun A outer s H E hr hgd => ?_) (fun ts μ PT PX h => p_first_apart_is_goal ts μ PT PX h.2)
  have hu := hr.units
  exact body_of (fun tk hp => (jb_one (js_ret (j_cmp (op_neA hu) s_neA (j_cmp op_inA s_inA (je_ix ix_seq s_ix (jv 0) j_int) (je_ix ix_seq s_ix (jv 1) j_int) rfl) (j_cmp op_inA s_inA (je_ix ix_seq s_ix (jv 0) j_int) (je_ix ix_seq s_ix (jv 2) j_int) rfl) (nomark _))))) (takes_of rfl rfl rfl rfl) (passes_of rfl)
theorem G_first_apart {fd : FuncData} (T : Tx K mg) (F : Fun K "first_apart" "first_apart" s_first_apart (ga K "first_apart") fd) : FnG P w K mg base 10 (ga K "first_apart") fd ["one", "other"] (toSp K (Dn 2 d_first_apart)) := by
  refine FnD.okE (k := 9) F sc_first_apart (fun ts μ PT PX h => h.1) (fun cdv A outer s H E lk hr hgd => ?_)
  obtain ⟨ac, Pt, rfl, hm, TB⟩ := tb_of T.tb_first_apart T.m___builtins__ lk
  have hu := hr.units
  exact ⟨w_first_apart _ _, body_of (fun tk hp => (jb_cons (js_ndef (st := n_first_apart_steps) (name := "steps") (i := 2) (nm := nmOf "first_apart" (defBody s_first_apart)) rfl (fun kin => TB _ kin) rfl hm sc_first_apart.nd nn_first_apart_steps (NdefX.ndef_free (fr := ["one", "other"]) nb_first_apart_steps))
    (jb_cons (js_ndef (st := n_first_apart_is_goal) (name := "is_goal") (i := 3) (nm := nmOf "first_apart" (defBody s_first_apart)) rfl (fun kin => TB _ kin) rfl hm sc_first_apart.nd nn_first_apart_is_goal (NdefX.ndef_free (fr := ["one", "other"]) nb_first_apart_is_goal))
    (jb_one (js_ret (je_callC (clo_cons (cloOk (st := n_first_apart_steps) (name := "steps") (i := 2) (k := 8) (n := 2) (js := [0, 1]) (fr := ["one", "other"]) (dsp := Dn 4 d_first_apart_steps) nb_first_apart_steps rfl (fun bb f c' q cl ws C => (G_first_apart_steps T C).mono (by decide))) (clo_cons (cloOk (st := n_first_apart_is_goal) (name := "is_goal") (i := 3) (k := 8) (n := 1) (js := [0, 1]) (fr := ["one", "other"]) (dsp := Dn 3 d_first_apart_is_goal) nb_first_apart_is_goal rfl (fun bb f c' q cl ws C => (G_first_apart_is_goal T C).mono (by decide))) clo_nil)) (fun bb => D_first_text (P := P) (w := w) (base := bb) T) hr hgd tk (fun _ => rfl) (ja_cons (je_lst (ja_cons (je_tup (ja_cons j_int (ja_cons j_int ja_nil))) ja_nil)) (ja_cons (jv 2) (ja_cons (je_bm PySem.F.plainAttrs_str PySem.F.slot_str_join PySem.F.type_str_join mt_join m_join j_str (ja_cons (je_sortSig rfl T.b_sorted T.b_set (j_op op_addA s_addA (je_ix ix_seq s_ix (jv 0) j_int) (je_ix ix_seq s_ix (jv 1) j_int))) ja_nil)) (ja_cons (jv 3) ja_nil)))))))))) (takes_of rfl rfl rfl rfl) (passes_of rfl), fun ts μ PT PX h => p_first_apart _ _ ts μ PT PX h.2⟩
theorem D_first_apart (T : Tx K mg) : Def1 P w K mg base "first_apart" 10 (Dn 2 d_first_apart) := by
  obtain ⟨fd, F⟩ := T.f_first_apart
  exact ⟨_, fd, ["one", "other"], G_first_apart T F, T.m_first_apart, F.kp, binds_of F fun _ _ _ _ _ _ us hl => match us, hl with | [_, _], _ => rfl⟩
theorem G_apart {fd : FuncData} (T : Tx K mg) (F : Fun K "apart" "apart" s_apart (ga K "apart") fd) : FnG P w K mg base 11 (ga K "apart") fd ["one", "other"] (toSp K (Dn 2 (d_apart (cE K)))) := by
  have D_first_apart := D_first_apart (P := P) (w := w) (base := base) T
  have D_check_table := D_check_table (P := P) (w := w) (base := base) T
  refine FnD.ok (k := 10) F sc_apart (fun ts μ PT PX h => h.1) (ws := (w_apart (cE K))) (fun cdv A outer s H E hr hgd => ?_) (fun ts μ PT PX h => p_apart (cE K) ts μ PT PX h.2)
  have hu := hr.units
  exact body_of (fun tk hp => (jb_cons (js_expr (je_def D_check_table hr hgd tk (ja_cons (jv 0) ja_nil)))
    (jb_cons (js_expr (je_def D_check_table hr hgd tk (ja_cons (jv 1) ja_nil)))
    (jb_one (js_ret (je_def D_first_apart hr hgd tk (ja_cons (jv 0) (ja_cons (jv 1) ja_nil)))))))) (takes_of rfl rfl rfl rfl) (passes_of rfl)
theorem D_apart (T : Tx K mg) : Def1 P w K mg base "apart" 11 (Dn 2 (d_apart (cE K))) := by
  obtain ⟨fd, F⟩ := T.f_apart
  exact ⟨_, fd, ["one", "other"], G_apart T F, T.m_apart, F.kp, binds_of F fun _ _ _ _ _ _ us hl => match us, hl with | [_, _], _ => rfl⟩
theorem DK_apart (T : Tx K mg) : DefK P w K mg base "apart" ["one", "other"] 11 (Dn 2 (d_apart (cE K))) := by
  obtain ⟨fd, F⟩ := T.f_apart
  exact ⟨_, fd, ["one", "other"], G_apart T F, T.m_apart, F.kp, kb_of F 0 ["one", "other"] (fun us ws => us ++ ws) (fun r1 r2 => r1.append r2) fun _ _ _ _ _ _ us ws l1 l2 => match us, ws, l1, l2 with | [], [_, _], _, _ => rfl⟩
theorem G__law_purse {fd : FuncData} (T : Tx K mg) (F : Fun K "_law_purse" "_law_purse" s__law_purse (ga K "_law_purse") fd) : FnG P w K mg base 1 (ga K "_law_purse") fd ["script", "place"] (toSp K (Dn 2 d__law_purse)) := by
  refine FnD.ok (k := 0) F sc__law_purse (fun ts μ PT PX h => h.1) (ws := w__law_purse) (fun cdv A outer s H E hr hgd => ?_) (fun ts μ PT PX h => p__law_purse ts μ PT PX h.2)
  have hu := hr.units
  exact body_of (fun tk hp => (jb_cons (js_set (i := 2) sc__law_purse.nd (je_if (jt_cmp op_lt s_lt (jv 1) (je_callB call_lenA c_len T.b_len (by decide +kernel) (ja_cons (jv 0) ja_nil)) (nomark _)) (je_ix ix_seq s_ix (jv 0) (jv 1)) j_int))
    (jb_one (js_ret (je_lst (ja_cons (je_callB (call_max2 rfl) c_max T.b_max (by decide +kernel) (ja_cons j_int (ja_cons (j_op op_sub s_sub (je_callB call_abs c_abs T.b_abs (by decide +kernel) (ja_cons (jv 2) ja_nil)) (j_op op_powW s_pow j_int j_int)) ja_nil))) (ja_cons (j_op op_mod s_mod (je_callTy call_int1 c_int T.b_int (by decide +kernel) (ja_cons (j_op op_addA s_addA (j_op op_addA s_addA (j_op op_mul s_mul (jv 2) j_int) (j_op op_mul s_mul (jv 1) j_int)) j_int) ja_nil)) (j_op op_addA s_addA (j_op op_powW s_pow j_int j_int) j_int)) (ja_cons j_int ja_nil)))))))) (takes_of rfl rfl rfl rfl) (passes_of rfl)
theorem D__law_purse (T : Tx K mg) : Def1 P w K mg base "_law_purse" 1 (Dn 2 d__law_purse) := by
  obtain ⟨fd, F⟩ := T.f__law_purse
  exact ⟨_, fd, ["script", "place"], G__law_purse T F, T.m__law_purse, F.kp, binds_of F fun _ _ _ _ _ _ us hl => match us, hl with | [_, _], _ => rfl⟩
theorem G__law_coin {fd : FuncData} (T : Tx K mg) (F : Fun K "_law_coin" "_law_coin" s__law_coin (ga K "_law_coin") fd) : FnG P w K mg base 1 (ga K "_law_coin") fd ["purse", "many"] (toSp K (Dn 2 d__law_coin)) := by
  refine FnD.ok (k := 0) F sc__law_coin (fun ts μ PT PX h => h.1) (ws := w__law_coin) (fun cdv A outer s H E hr hgd => ?_) (fun ts μ PT PX h => p__law_coin ts μ PT PX h.2)
  have hu := hr.units
  exact body_of (fun tk hp => (jb_cons (js_if (jt_cmp op_gt s_gt (je_ix ix_seq s_ix (jv 0) j_int) j_int (nomark _)) (jb_cons (js_set (i := 3) sc__law_coin.nd (j_op op_mod s_mod (je_callTy call_int1 c_int T.b_int (by decide +kernel) (ja_cons (je_ix ix_seq s_ix (jv 0) j_int) ja_nil)) (jv 1)))
    (jb_cons (js_asg (j_op op_fdivW s_div (je_ix ix_seq s_ix (jv 0) j_int) (jv 1)) (jg_sub (W := WF) (jv 0) j_int set_list s_setL))
    (jb_one (js_ret (jv 3))))) jb_nil)
    (jb_cons (js_asg (j_op op_addA s_addA (je_ix ix_seq s_ix (jv 0) j_int) j_int) (jg_sub (W := WF) (jv 0) j_int set_list s_setL))
    (jb_cons (js_set (i := 2) sc__law_coin.nd (j_op op_mod s_mod (j_op op_powW s_pow (je_callTy call_int1 c_int T.b_int (by decide +kernel) (ja_cons (j_op op_addA s_addA (je_ix ix_seq s_ix (jv 0) j_int) (j_op op_mul s_mul j_int (je_ix ix_seq s_ix (jv 0) j_int))) ja_nil)) j_int) (j_op op_addA s_addA (j_op op_powW s_pow j_int j_int) j_int)))
    (jb_cons (js_set (i := 2) sc__law_coin.nd (j_op op_mod s_mod (j_op op_powW s_pow (je_callTy call_int1 c_int T.b_int (by decide +kernel) (ja_cons (j_op op_addA s_addA (jv 2) (j_op op_mul s_mul j_int (je_ix ix_seq s_ix (jv 0) j_int))) ja_nil)) j_int) (j_op op_addA s_addA (j_op op_powW s_pow j_int j_int) j_int)))
    (jb_one (js_ret (j_op op_mod s_mod (je_callTy call_int1 c_int T.b_int (by decide +kernel) (ja_cons (j_op op_fdivW s_div (jv 2) j_int) ja_nil)) (jv 1))))))))) (takes_of rfl rfl rfl rfl) (passes_of rfl)
theorem D__law_coin (T : Tx K mg) : Def1 P w K mg base "_law_coin" 1 (Dn 2 d__law_coin) := by
  obtain ⟨fd, F⟩ := T.f__law_coin
  exact ⟨_, fd, ["purse", "many"], G__law_coin T F, T.m__law_coin, F.kp, binds_of F fun _ _ _ _ _ _ us hl => match us, hl with | [_, _], _ => rfl⟩
theorem G__law_qt_letters {fd : FuncData} (T : Tx K mg) (F : Fun K "_law_qt_letters" "_law_qt_letters" s__law_qt_letters (ga K "_law_qt_letters") fd) : FnG P w K mg base 2 (ga K "_law_qt_letters") fd ["sack", "amount"] (toSp K (Dn 2 d__law_qt_letters)) := by
  have D__law_coin := D__law_coin (P := P) (w := w) (base := base) T
  refine FnD.ok (k := 1) F sc__law_qt_letters (fun ts μ PT PX h => h.1) (ws := w__law_qt_letters) (fun cdv A outer s H E hr hgd => ?_) (fun ts μ PT PX h => p__law_qt_letters ts μ PT PX h.2)
  have hu := hr.units
  exact body_of (fun tk hp => (jb_cons (js_par (i := 2) (j := 3) rfl sc__law_qt_letters.nd (by decide) (ja_cons (je_def D__law_coin hr hgd tk (ja_cons (jv 0) (ja_cons j_int ja_nil))) (ja_cons (je_lst ja_nil) ja_nil)))
    (jb_cons (js_for hp rfl (ji_r1 T.b_range (ja_cons (jv 1) ja_nil)) (jg_name (i := 4) sc__law_qt_letters.nd) (jb_cons (js_expr (je_bm PySem.F.plainAttrs_list PySem.F.slot_list_append PySem.F.type_list_append mt_append m_append (jv 3) (ja_cons (je_ix ix_seq s_ix j_str (j_op op_mod s_mod (je_callTy call_int1 c_int T.b_int (by decide +kernel) (ja_cons (jv 2) ja_nil)) j_int)) ja_nil)))
    (jb_one (js_set (i := 2) sc__law_qt_letters.nd (j_op op_addA s_addA (j_op op_addA s_addA (jv 2) j_int) (je_def D__law_coin hr hgd tk (ja_cons (jv 0) (ja_cons j_int ja_nil))))))))
    (jb_one (js_ret (je_bm PySem.F.plainAttrs_str PySem.F.slot_str_join PySem.F.type_str_join mt_join m_join j_str (ja_cons (je_callB cr_sortedS c_sortedS T.b_sorted (by decide +kernel) (ja_cons (jv 3) ja_nil)) ja_nil))))))) (takes_of rfl rfl rfl rfl) (passes_of rfl)
theorem D__law_qt_letters (T : Tx K mg) : Def1 P w K mg base "_law_qt_letters" 2 (Dn 2 d__law_qt_letters) := by
  obtain ⟨fd, F⟩ := T.f__law_qt_letters
  exact ⟨_, fd, ["sack", "amount"], G__law_qt_letters T F, T.m__law_qt_letters, F.kp, binds_of F fun _ _ _ _ _ _ us hl => match us, hl with | [_, _], _ => rfl⟩
theorem G__law_qt_copy {fd : FuncData} (T : Tx K mg) (F : Fun K "_law_qt_copy" "_law_qt_copy" s__law_qt_copy (ga K "_law_qt_copy") fd) : FnG P w K mg base 1 (ga K "_law_qt_copy") fd ["sheet"] (toSp K (Dn 1 d__law_qt_copy)) := by
  refine FnD.ok (k := 0) F sc__law_qt_copy (fun ts μ PT PX h => h.1) (ws := w__law_qt_copy) (fun cdv A outer s H E hr hgd => ?_) (fun ts μ PT PX h => p__law_qt_copy ts μ PT PX h.2)
  have hu := hr.units
  exact body_of (fun tk hp => (jb_one (js_ret (je_tup (ja_cons (je_ix ix_seq s_ix (jv 0) j_int) (ja_cons (je_lc (own := [("row", 1)]) rfl sc__law_qt_copy.nd (ji_any (je_ix ix_seq s_ix (jv 0) j_int)) (blkOk_by (own := [("row", 1)]) (N := N__law_qt_copy) (sc := defScope s__law_qt_copy) (by decide +kernel)) (fun _ _ _ _ _ => pg_name (i := 1) sc__law_qt_copy.nd rfl (by first | exact Or.inl rfl | exact Or.inr rfl)) sg_name (ow_name (by decide)) (fun _ _ _ _ _ => jts_nil) (fun _ _ _ _ _ => (je_callTy call_list_of c_list T.b_list (by decide +kernel) (ja_cons (jv 1) ja_nil)))) (ja_cons (je_callTy call_list_of c_list T.b_list (by decide +kernel) (ja_cons (je_ix ix_seq s_ix (jv 0) j_int) ja_nil)) ja_nil))))))) (takes_of rfl rfl rfl rfl) (passes_of rfl)
theorem D__law_qt_copy (T : Tx K mg) : Def1 P w K mg base "_law_qt_copy" 1 (Dn 1 d__law_qt_copy) := by
  obtain ⟨fd, F⟩ := T.f__law_qt_copy
  exact ⟨_, fd, ["sheet"], G__law_qt_copy T F, T.m__law_qt_copy, F.kp, binds_of F fun _ _ _ _ _ _ us hl => match us, hl with | [_], _ => rfl⟩
theorem G__law_qt_sheet {fd : FuncData} (T : Tx K mg) (F : Fun K "_law_qt_sheet" "_law_qt_sheet" s__law_qt_sheet (ga K "_law_qt_sheet") fd) : FnG P w K mg base 2 (ga K "_law_qt_sheet") fd ["sack", "letters", "high"] (toSp K (Dn 3 d__law_qt_sheet)) := by
  have D__law_coin := D__law_coin (P := P) (w := w) (base := base) T
  refine FnD.ok (k := 1) F sc__law_qt_sheet (fun ts μ PT PX h => h.1) (ws := w__law_qt_sheet) (fun cdv A outer s H E hr hgd => ?_) (fun ts μ PT PX h => p__law_qt_sheet ts μ PT PX h.2)
  have hu := hr.units
  exact body_of (fun tk hp => (jb_cons (js_set (i := 3) sc__law_qt_sheet.nd (j_op op_addA s_addA j_int (je_def D__law_coin hr hgd tk (ja_cons (jv 0) (ja_cons (jv 2) ja_nil)))))
    (jb_cons (js_set (i := 4) sc__law_qt_sheet.nd (je_lst ja_nil))
    (jb_cons (js_for hp rfl (ji_r1 T.b_range (ja_cons (jv 3) ja_nil)) (jg_name (i := 5) sc__law_qt_sheet.nd) (jb_one (js_expr (je_bm PySem.F.plainAttrs_list PySem.F.slot_list_append PySem.F.type_list_append mt_append m_append (jv 4) (ja_cons (je_lc (own := [("sign", 9)]) rfl sc__law_qt_sheet.nd (ji_any (jv 1)) (blkOk_by (own := [("sign", 9)]) (N := N__law_qt_sheet) (sc := defScope s__law_qt_sheet) (by decide +kernel)) (fun _ _ _ _ _ => pg_name (i := 9) sc__law_qt_sheet.nd rfl (by first | exact Or.inl rfl | exact Or.inr rfl)) sg_name (ow_name (by decide)) (fun _ _ _ _ _ => jts_nil) (fun _ _ _ _ _ => (je_def D__law_coin hr hgd takes0 (ja_cons (jv 0) (ja_cons (jv 3) ja_nil))))) ja_nil)))))
    (jb_cons (js_set (i := 6) sc__law_qt_sheet.nd (j_op op_addA s_addA j_int (je_def D__law_coin hr hgd tk (ja_cons (jv 0) (ja_cons j_int ja_nil)))))
    (jb_cons (js_setLc (i := 7) (own := [("k", 8)]) rfl sc__law_qt_sheet.nd (ji_r1 T.b_range (ja_cons (jv 3) ja_nil)) (blkOk_by (own := [("k", 8)]) (N := N__law_qt_sheet) (sc := defScope s__law_qt_sheet) (by decide +kernel)) (fun _ _ _ _ _ => pg_name (i := 8) sc__law_qt_sheet.nd rfl (by first | exact Or.inl rfl | exact Or.inr rfl)) sg_name (ow_name (by decide)) (fun _ _ _ _ _ => (jts_one (jt_cmp (op_eqA hu) s_eqA (je_def D__law_coin hr hgd takes0 (ja_cons (jv 0) (ja_cons (jv 6) ja_nil))) j_int (nomark _)))) (fun _ _ _ _ _ => (jv 8)) (sw_true rfl rfl rfl (by decide +kernel)))
    (jb_one (js_ret (je_tup (ja_cons (jv 1) (ja_cons (jv 4) (ja_cons (jv 7) ja_nil)))))))))))) (takes_of rfl rfl rfl rfl) (passes_of rfl)
theorem D__law_qt_sheet (T : Tx K mg) : Def1 P w K mg base "_law_qt_sheet" 2 (Dn 3 d__law_qt_sheet) := by
  obtain ⟨fd, F⟩ := T.f__law_qt_sheet
  exact ⟨_, fd, ["sack", "letters", "high"], G__law_qt_sheet T F, T.m__law_qt_sheet, F.kp, binds_of F fun _ _ _ _ _ _ us hl => match us, hl with | [_, _, _], _ => rfl⟩
theorem G__law_qt_renumbered {fd : FuncData} (T : Tx K mg) (F : Fun K "_law_qt_renumbered" "_law_qt_renumbered" s__law_qt_renumbered (ga K "_law_qt_renumbered") fd) : FnG P w K mg base 2 (ga K "_law_qt_renumbered") fd ["sack", "sheet", "extra"] (toSp K (Dn 3 d__law_qt_renumbered)) := by
  have D__law_coin := D__law_coin (P := P) (w := w) (base := base) T
  refine FnD.ok (k := 1) F sc__law_qt_renumbered (fun ts μ PT PX h => h.1) (ws := w__law_qt_renumbered) (fun cdv A outer s H E hr hgd => ?_) (fun ts μ PT PX h => p__law_qt_renumbered ts μ PT PX h.2)
  have hu := hr.units
  exact body_of (fun tk hp => (jb_cons (js_asg (jv 1) (jg_tup rfl (jg_cons (jg_name (i := 3) sc__law_qt_renumbered.nd) (jg_cons (jg_name (i := 4) sc__law_qt_renumbered.nd) (jg_cons (jg_name (i := 5) sc__law_qt_renumbered.nd) jg_nil)))))
    (jb_cons (js_set (i := 6) sc__law_qt_renumbered.nd (je_lst (ja_cons j_int ja_nil)))
    (jb_cons (js_for hp rfl (ji_r2 T.b_range (ja_cons j_int (ja_cons (je_callB call_lenA c_len T.b_len (by decide +kernel) (ja_cons (jv 4) ja_nil)) ja_nil))) (jg_name (i := 7) sc__law_qt_renumbered.nd) (jb_one (js_expr (je_bm PySem.F.plainAttrs_list PySem.F.slot_list_insert PySem.F.type_list_insert mt_insert m_insert (jv 6) (ja_cons (j_op op_addA s_addA j_int (je_def D__law_coin hr hgd tk (ja_cons (jv 0) (ja_cons (je_callB call_lenA c_len T.b_len (by decide +kernel) (ja_cons (jv 6) ja_nil)) ja_nil)))) (ja_cons (jv 7) ja_nil))))))
    (jb_cons (js_for hp rfl (ji_r1 T.b_range (ja_cons (je_def D__law_coin hr hgd tk (ja_cons (jv 0) (ja_cons (j_op op_addA s_addA (jv 2) j_int) ja_nil))) ja_nil)) (jg_name (i := 8) sc__law_qt_renumbered.nd) (jb_one (js_expr (je_bm PySem.F.plainAttrs_list PySem.F.slot_list_insert PySem.F.type_list_insert mt_insert m_insert (jv 6) (ja_cons (j_op op_addA s_addA j_int (je_def D__law_coin hr hgd tk (ja_cons (jv 0) (ja_cons (je_callB call_lenA c_len T.b_len (by decide +kernel) (ja_cons (jv 6) ja_nil)) ja_nil)))) (ja_cons (je_def D__law_coin hr hgd tk (ja_cons (jv 0) (ja_cons (je_callB call_lenA c_len T.b_len (by decide +kernel) (ja_cons (jv 4) ja_nil)) ja_nil))) ja_nil))))))
    (jb_cons (js_set (i := 9) sc__law_qt_renumbered.nd (je_lst ja_nil))
    (jb_cons (js_for hp rfl (ji_any (jv 6)) (jg_name (i := 10) sc__law_qt_renumbered.nd) (jb_cons (js_set (i := 11) sc__law_qt_renumbered.nd (je_lst ja_nil))
    (jb_cons (js_for hp rfl (ji_any (je_ix ix_seq s_ix (jv 4) (jv 10))) (jg_name (i := 12) sc__law_qt_renumbered.nd) (jb_cons (js_setLc (i := 13) (own := [("k", 7)]) rfl sc__law_qt_renumbered.nd (ji_r1 T.b_range (ja_cons (je_callB call_lenA c_len T.b_len (by decide +kernel) (ja_cons (jv 6) ja_nil)) ja_nil)) (blkOk_by (own := [("k", 7)]) (N := N__law_qt_renumbered) (sc := defScope s__law_qt_renumbered) (by decide +kernel)) (fun _ _ _ _ _ => pg_name (i := 7) sc__law_qt_renumbered.nd rfl (by first | exact Or.inl rfl | exact Or.inr rfl)) sg_name (ow_name (by decide)) (fun _ _ _ _ _ => (jts_one (jt_cmp (op_eqA hu) s_eqA (je_ix ix_seq s_ix (jv 6) (jv 7)) (jv 12) (nomark _)))) (fun _ _ _ _ _ => (jv 7)) (sw_true rfl rfl rfl (by decide +kernel)))
    (jb_one (js_expr (je_bm PySem.F.plainAttrs_list PySem.F.slot_list_append PySem.F.type_list_append mt_append m_append (jv 11) (ja_cons (je_ix ix_seq s_ix (jv 13) (je_def D__law_coin hr hgd tk (ja_cons (jv 0) (ja_cons (je_callB call_lenA c_len T.b_len (by decide +kernel) (ja_cons (jv 13) ja_nil)) ja_nil)))) ja_nil))))))
    (jb_one (js_expr (je_bm PySem.F.plainAttrs_list PySem.F.slot_list_append PySem.F.type_list_append mt_append m_append (jv 9) (ja_cons (jv 11) ja_nil)))))))
    (jb_one (js_ret (je_tup (ja_cons (jv 3) (ja_cons (jv 9) (ja_cons (je_lc (own := [("k", 7)]) rfl sc__law_qt_renumbered.nd (ji_r1 T.b_range (ja_cons (je_callB call_lenA c_len T.b_len (by decide +kernel) (ja_cons (jv 6) ja_nil)) ja_nil)) (blkOk_by (own := [("k", 7)]) (N := N__law_qt_renumbered) (sc := defScope s__law_qt_renumbered) (by decide +kernel)) (fun _ _ _ _ _ => pg_name (i := 7) sc__law_qt_renumbered.nd rfl (by first | exact Or.inl rfl | exact Or.inr rfl)) sg_name (ow_name (by decide)) (fun _ _ _ _ _ => (jts_one (jt_cmp op_inA s_inA (je_ix ix_seq s_ix (jv 6) (jv 7)) (jv 5) rfl))) (fun _ _ _ _ _ => (jv 7))) ja_nil))))))))))))) (takes_of rfl rfl rfl rfl) (passes_of rfl)
theorem D__law_qt_renumbered (T : Tx K mg) : Def1 P w K mg base "_law_qt_renumbered" 2 (Dn 3 d__law_qt_renumbered) := by
  obtain ⟨fd, F⟩ := T.f__law_qt_renumbered
  exact ⟨_, fd, ["sack", "sheet", "extra"], G__law_qt_renumbered T F, T.m__law_qt_renumbered, F.kp, binds_of F fun _ _ _ _ _ _ us hl => match us, hl with | [_, _, _], _ => rfl⟩
theorem G__law_qt_next {fd : FuncData} (T : Tx K mg) (F : Fun K "_law_qt_next" "_law_qt_next" s__law_qt_next (ga K "_law_qt_next") fd) : FnG P w K mg base 1 (ga K "_law_qt_next") fd ["sheet", "state", "sign"] (toSp K (Dn 3 d__law_qt_next)) := by
  refine FnD.ok (k := 0) F sc__law_qt_next (fun ts μ PT PX h => h.1) (ws := w__law_qt_next) (fun cdv A outer s H E hr hgd => ?_) (fun ts μ PT PX h => p__law_qt_next ts μ PT PX h.2)
  have hu := hr.units
  exact body_of (fun tk hp => (jb_cons (js_set (i := 3) sc__law_qt_next.nd (je_bm PySem.F.plainAttrs_str PySem.F.slot_str_find PySem.F.type_str_find mt_find m_find (je_ix ix_seq s_ix (jv 0) j_int) (ja_cons (jv 2) ja_nil)))
    (jb_cons (js_if (JW.jt (jw_or (jt_cmp op_lt s_lt (jv 1) j_int (nomark _)) (jw_or1 (jt_cmp op_lt s_lt (jv 3) j_int (nomark _))))) (jb_one (js_ret (j_un un_neg s_neg j_int))) jb_nil)
    (jb_one (js_ret (je_ix ix_seq s_ix (je_ix ix_seq s_ix (je_ix ix_seq s_ix (jv 0) j_int) (jv 1)) (jv 3))))))) (takes_of rfl rfl rfl rfl) (passes_of rfl)
theorem D__law_qt_next (T : Tx K mg) : Def1 P w K mg base "_law_qt_next" 1 (Dn 3 d__law_qt_next) := by
  obtain ⟨fd, F⟩ := T.f__law_qt_next
  exact ⟨_, fd, ["sheet", "state", "sign"], G__law_qt_next T F, T.m__law_qt_next, F.kp, binds_of F fun _ _ _ _ _ _ us hl => match us, hl with | [_, _, _], _ => rfl⟩
theorem G__law_qt_bent {fd : FuncData} (T : Tx K mg) (F : Fun K "_law_qt_bent" "_law_qt_bent" s__law_qt_bent (ga K "_law_qt_bent") fd) : FnG P w K mg base 2 (ga K "_law_qt_bent") fd ["sack", "sheet"] (toSp K (Dn 2 d__law_qt_bent)) := by
  have D__law_coin := D__law_coin (P := P) (w := w) (base := base) T
  have D__law_qt_copy := D__law_qt_copy (P := P) (w := w) (base := base) T
  refine FnD.ok (k := 1) F sc__law_qt_bent (fun ts μ PT PX h => h.1) (ws := w__law_qt_bent) (fun cdv A outer s H E hr hgd => ?_) (fun ts μ PT PX h => p__law_qt_bent ts μ PT PX h.2)
  have hu := hr.units
  exact body_of (fun tk hp => (jb_cons (js_asg (je_def D__law_qt_copy hr hgd tk (ja_cons (jv 1) ja_nil)) (jg_tup rfl (jg_cons (jg_name (i := 2) sc__law_qt_bent.nd) (jg_cons (jg_name (i := 3) sc__law_qt_bent.nd) (jg_cons (jg_name (i := 4) sc__law_qt_bent.nd) jg_nil)))))
    (jb_cons (js_asg (je_tup (ja_cons (je_def D__law_coin hr hgd tk (ja_cons (jv 0) (ja_cons j_int ja_nil))) (ja_cons (je_def D__law_coin hr hgd tk (ja_cons (jv 0) (ja_cons (je_callB call_lenA c_len T.b_len (by decide +kernel) (ja_cons (jv 3) ja_nil)) ja_nil))) ja_nil))) (jg_tup rfl (jg_cons (jg_name (i := 5) sc__law_qt_bent.nd) (jg_cons (jg_name (i := 6) sc__law_qt_bent.nd) jg_nil))))
    (jb_cons (js_if (jt_cmp (op_eqA hu) s_eqA (jv 5) j_int (nomark _)) (jb_one (js_set (i := 4) sc__law_qt_bent.nd (je_lc (own := [("k", 7)]) rfl sc__law_qt_bent.nd (ji_r1 T.b_range (ja_cons (je_callB call_lenA c_len T.b_len (by decide +kernel) (ja_cons (jv 3) ja_nil)) ja_nil)) (blkOk_by (own := [("k", 7)]) (N := N__law_qt_bent) (sc := defScope s__law_qt_bent) (by decide +kernel)) (fun _ _ _ _ _ => pg_name (i := 7) sc__law_qt_bent.nd rfl (by first | exact Or.inl rfl | exact Or.inr rfl)) sg_name (ow_name (by decide)) (fun _ _ _ _ _ => (jts_one (jt_cmp (op_neA hu) s_neA (j_cmp op_inA s_inA (jv 7) (jv 4) rfl) (j_cmp (op_eqA hu) s_eqA (jv 7) (jv 6) (nomark _)) (nomark _)))) (fun _ _ _ _ _ => (jv 7))))) (jb_one (js_if (JW.jt (jw_and (jt_cmp (op_eqA hu) s_eqA (jv 5) j_int (nomark _)) (jw_and1 (jt_cmp (op_neA hu) s_neA (jv 2) j_str (nomark _))))) (jb_one (js_asg (je_def D__law_coin hr hgd tk (ja_cons (jv 0) (ja_cons (je_callB call_lenA c_len T.b_len (by decide +kernel) (ja_cons (jv 3) ja_nil)) ja_nil))) (jg_sub (W := WF) (je_ix ix_seq s_ix (jv 3) (jv 6)) (je_def D__law_coin hr hgd takes0 (ja_cons (jv 0) (ja_cons (je_callB call_lenA c_len T.b_len (by decide +kernel) (ja_cons (jv 2) ja_nil)) ja_nil))) set_list s_setL))) jb_nil)))
    (jb_one (js_ret (je_tup (ja_cons (jv 2) (ja_cons (jv 3) (ja_cons (jv 4) ja_nil)))))))))) (takes_of rfl rfl rfl rfl) (passes_of rfl)
theorem D__law_qt_bent (T : Tx K mg) : Def1 P w K mg base "_law_qt_bent" 2 (Dn 2 d__law_qt_bent) := by
  obtain ⟨fd, F⟩ := T.f__law_qt_bent
  exact ⟨_, fd, ["sack", "sheet"], G__law_qt_bent T F, T.m__law_qt_bent, F.kp, binds_of F fun _ _ _ _ _ _ us hl => match us, hl with | [_, _], _ => rfl⟩
theorem G__law_qt_first {fd : FuncData} (T : Tx K mg) (F : FunD K "_law_qt_first" "_law_qt_first" (defArgs s__law_qt_first) (defBody s__law_qt_first) (defScope s__law_qt_first) [.int (0), .int (0)] [] (ga K "_law_qt_first") fd) : FnG P w K mg base 2 (ga K "_law_qt_first") fd ["sheet", "other_sheet", "is_more", "left", "right"] (toSp K (Dn 5 d__law_qt_first)) := by
  have D__law_qt_next := D__law_qt_next (P := P) (w := w) (base := base) T
  refine FnD.okV (k := 1) F sc__law_qt_first (fun ts μ PT PX h => h.1) (ws := w__law_qt_first) (fun cdv A outer s H E hr hgd => ?_) (fun ts μ PT PX h => p__law_qt_first ts μ PT PX h.2)
  have hu := hr.units
  exact body_of (fun tk hp => (jb_cons (js_set (i := 5) sc__law_qt_first.nd (je_bm PySem.F.plainAttrs_str PySem.F.slot_str_join PySem.F.type_str_join mt_join m_join j_str (ja_cons (je_sortSig rfl T.b_sorted T.b_set (j_op op_addA s_addA (je_ix ix_seq s_ix (jv 0) j_int) (je_ix ix_seq s_ix (jv 1) j_int))) ja_nil)))
    (jb_cons (js_par3 (i := 6) (j := 7) (k := 8) rfl sc__law_qt_first.nd (by decide) (by decide) (by decide) (ja_cons (je_lst (ja_cons (je_tup (ja_cons (jv 3) (ja_cons (jv 4) ja_nil))) ja_nil)) (ja_cons (je_lst (ja_cons j_str ja_nil)) (ja_cons (je_dispT (by exact Nat.lt_of_le_of_lt (Nat.le_add_right _ 64) hu) (je_tup (ja_cons (jv 3) (ja_cons (jv 4) ja_nil))) j_bl) ja_nil))))
    (jb_cons (js_for hp rfl (ji_r1 T.b_range (ja_cons (j_op op_mul s_mul (j_op op_addA s_addA (je_callB call_lenA c_len T.b_len (by decide +kernel) (ja_cons (je_ix ix_seq s_ix (jv 0) j_int) ja_nil)) j_int) (j_op op_addA s_addA (je_callB call_lenA c_len T.b_len (by decide +kernel) (ja_cons (je_ix ix_seq s_ix (jv 1) j_int) ja_nil)) j_int)) ja_nil)) (jg_name (i := 9) sc__law_qt_first.nd) (jb_cons (js_if (jt_cmp op_ge s_ge (jv 9) (je_callB call_lenA c_len T.b_len (by decide +kernel) (ja_cons (jv 6) ja_nil)) (nomark _)) (jb_one (js_ret j_non)) jb_nil)
    (jb_cons (js_asg (je_ix ix_seq s_ix (jv 6) (jv 9)) (jg_tup rfl (jg_cons (jg_name (i := 3) sc__law_qt_first.nd) (jg_cons (jg_name (i := 4) sc__law_qt_first.nd) jg_nil))))
    (jb_cons (js_set (i := 10) sc__law_qt_first.nd (j_cmp op_inA s_inA (jv 4) (je_ix ix_seq s_ix (jv 1) j_int) rfl))
    (jb_cons (js_if (JW.jt (jw_and (jt_cmp (op_neA hu) s_neA (j_cmp op_inA s_inA (jv 3) (je_ix ix_seq s_ix (jv 0) j_int) rfl) (jv 10) (nomark _)) (jw_and1 (jt_not (JW.jt (jw_and (jt_tru (jv 2)) (jw_and1 (jt_tru (jv 10))))))))) (jb_one (js_ret (je_ix ix_seq s_ix (jv 7) (jv 9)))) jb_nil)
    (jb_one (js_for hp rfl (ji_any (jv 5)) (jg_name (i := 11) sc__law_qt_first.nd) (jb_cons (js_set (i := 12) sc__law_qt_first.nd (je_tup (ja_cons (je_def D__law_qt_next hr hgd tk (ja_cons (jv 0) (ja_cons (jv 3) (ja_cons (jv 11) ja_nil)))) (ja_cons (je_def D__law_qt_next hr hgd tk (ja_cons (jv 1) (ja_cons (jv 4) (ja_cons (jv 11) ja_nil)))) ja_nil))))
    (jb_one (js_if (jt_cmp (op_notInD (room1 hu)) s_notInD (jv 12) (jv 8) rfl) (jb_cons (js_asg j_bl (jg_sub (W := WF) (jv 8) (jv 12) (set_dict (room1 hu)) s_dset))
    (jb_cons (js_expr (je_bm PySem.F.plainAttrs_list PySem.F.slot_list_append PySem.F.type_list_append mt_append m_append (jv 6) (ja_cons (jv 12) ja_nil)))
    (jb_one (js_expr (je_bm PySem.F.plainAttrs_list PySem.F.slot_list_append PySem.F.type_list_append mt_append m_append (jv 7) (ja_cons (j_op op_addA s_addA (je_ix ix_seq s_ix (jv 7) (jv 9)) (jv 11)) ja_nil)))))) jb_nil))))))))))
    (jb_one (js_ret j_non)))))) (takes_of rfl rfl rfl rfl) (passes_of rfl)
theorem D__law_qt_first (T : Tx K mg) : DefV1 P w K mg base "_law_qt_first" 2 [.int (0), .int (0)] (Dn 5 d__law_qt_first) := by
  obtain ⟨fd, F⟩ := T.f__law_qt_first
  obtain ⟨ds, hv, hb⟩ := F.binds1 (ps := ["sheet", "other_sheet", "is_more", "left", "right"]) 3 0 (by simp) rfl (fun T kV doc pm an cdv ct us its l1 l2 => match us, its, l1, l2 with | [_, _, _], [_, _], _, _ => ⟨_, rfl, rfl⟩)
  exact ⟨_, fd, ["sheet", "other_sheet", "is_more", "left", "right"], [.int (0), .int (0)], ds, G__law_qt_first T F, T.m__law_qt_first, F.kp, trs_dfl [(0), (0)], hv, hb⟩
theorem G__law_qt_widened {fd : FuncData} (T : Tx K mg) (F : Fun K "_law_qt_widened" "_law_qt_widened" s__law_qt_widened (ga K "_law_qt_widened") fd) : FnG P w K mg base 1 (ga K "_law_qt_widened") fd ["sheet", "sign"] (toSp K (Dn 2 d__law_qt_widened)) := by
  refine FnD.ok (k := 0) F sc__law_qt_widened (fun ts μ PT PX h => h.1) (ws := w__law_qt_widened) (fun cdv A outer s H E hr hgd => ?_) (fun ts μ PT PX h => p__law_qt_widened ts μ PT PX h.2)
  have hu := hr.units
  exact body_of (fun tk hp => (jb_cons (js_set (i := 2) sc__law_qt_widened.nd (je_bm PySem.F.plainAttrs_str PySem.F.slot_str_join PySem.F.type_str_join mt_join m_join j_str (ja_cons (je_callB (cr_sortedTx rfl) c_sortedTx T.b_sorted (by decide +kernel) (ja_cons (j_op op_addA s_addA (je_ix ix_seq s_ix (jv 0) j_int) (jv 1)) ja_nil)) ja_nil)))
    (jb_cons (js_asg (je_tup (ja_cons (je_bm PySem.F.plainAttrs_str PySem.F.slot_str_index PySem.F.type_str_index mt_sindex m_sindex (jv 2) (ja_cons (jv 1) ja_nil)) (ja_cons (je_callB call_lenA c_len T.b_len (by decide +kernel) (ja_cons (je_ix ix_seq s_ix (jv 0) j_int) ja_nil)) ja_nil))) (jg_tup rfl (jg_cons (jg_name (i := 3) sc__law_qt_widened.nd) (jg_cons (jg_name (i := 4) sc__law_qt_widened.nd) jg_nil))))
    (jb_cons (js_setLc (i := 5) (own := [("row", 6)]) rfl sc__law_qt_widened.nd (ji_any (je_ix ix_seq s_ix (jv 0) j_int)) (blkOk_by (own := [("row", 6)]) (N := N__law_qt_widened) (sc := defScope s__law_qt_widened) (by decide +kernel)) (fun _ _ _ _ _ => pg_name (i := 6) sc__law_qt_widened.nd rfl (by first | exact Or.inl rfl | exact Or.inr rfl)) sg_name (ow_name (by decide)) (fun _ _ _ _ _ => jts_nil) (fun _ _ _ _ _ => (j_op op_addA s_addA (j_op op_addA s_addA (je_slice (jv 6) jo_none (jo_some (jv 3))) (je_lst (ja_cons (jv 4) ja_nil))) (je_slice (jv 6) (jo_some (jv 3)) jo_none))) (sw_true rfl rfl rfl (by decide +kernel)))
    (jb_one (js_ret (je_tup (ja_cons (jv 2) (ja_cons (j_op op_addA s_addA (jv 5) (je_lst (ja_cons (je_lc (own := [("one_sign", 7)]) rfl sc__law_qt_widened.nd (ji_any (jv 2)) (blkOk_by (own := [("one_sign", 7)]) (N := N__law_qt_widened) (sc := defScope s__law_qt_widened) (by decide +kernel)) (fun _ _ _ _ _ => pg_name (i := 7) sc__law_qt_widened.nd rfl (by first | exact Or.inl rfl | exact Or.inr rfl)) sg_name (ow_name (by decide)) (fun _ _ _ _ _ => jts_nil) (fun _ _ _ _ _ => (jv 4))) ja_nil))) (ja_cons (je_callTy call_list_of c_list T.b_list (by decide +kernel) (ja_cons (je_ix ix_seq s_ix (jv 0) j_int) ja_nil)) ja_nil)))))))))) (takes_of rfl rfl rfl rfl) (passes_of rfl)
theorem D__law_qt_widened (T : Tx K mg) : Def1 P w K mg base "_law_qt_widened" 1 (Dn 2 d__law_qt_widened) := by
  obtain ⟨fd, F⟩ := T.f__law_qt_widened
  exact ⟨_, fd, ["sheet", "sign"], G__law_qt_widened T F, T.m__law_qt_widened, F.kp, binds_of F fun _ _ _ _ _ _ us hl => match us, hl with | [_, _], _ => rfl⟩
theorem G__law_qt_rival {fd : FuncData} (T : Tx K mg) (F : Fun K "_law_qt_rival" "_law_qt_rival" s__law_qt_rival (ga K "_law_qt_rival") fd) : FnG P w K mg base 3 (ga K "_law_qt_rival") fd ["sack", "sheet", "letters", "high"] (toSp K (Dn 4 d__law_qt_rival)) := by
  have D__law_qt_sheet := D__law_qt_sheet (P := P) (w := w) (base := base) T
  have D__law_coin := D__law_coin (P := P) (w := w) (base := base) T
  have D__law_qt_widened := D__law_qt_widened (P := P) (w := w) (base := base) T
  have D__law_qt_bent := D__law_qt_bent (P := P) (w := w) (base := base) T
  have D__law_qt_renumbered := D__law_qt_renumbered (P := P) (w := w) (base := base) T
  refine FnD.ok (k := 2) F sc__law_qt_rival (fun ts μ PT PX h => h.1) (ws := w__law_qt_rival) (fun cdv A outer s H E hr hgd => ?_) (fun ts μ PT PX h => p__law_qt_rival ts μ PT PX h.2)
  have hu := hr.units
  exact body_of (fun tk hp => (jb_cons (js_set (i := 4) sc__law_qt_rival.nd (je_def D__law_coin hr hgd tk (ja_cons (jv 0) (ja_cons j_int ja_nil))))
    (jb_cons (js_if (jt_cmp (op_eqA hu) s_eqA (jv 4) j_int (nomark _)) (jb_one (js_ret (je_def D__law_qt_bent hr hgd tk (ja_cons (jv 0) (ja_cons (jv 1) ja_nil))))) jb_nil)
    (jb_cons (js_if (jt_cmp (op_eqA hu) s_eqA (jv 4) j_int (nomark _)) (jb_one (js_ret (je_def D__law_qt_renumbered hr hgd tk (ja_cons (jv 0) (ja_cons (jv 1) (ja_cons j_int ja_nil)))))) jb_nil)
    (jb_cons (js_if (jt_cmp (op_eqA hu) s_eqA (jv 4) j_int (nomark _)) (jb_one (js_ret (je_def D__law_qt_bent hr hgd tk (ja_cons (jv 0) (ja_cons (je_def D__law_qt_renumbered hr hgd tk (ja_cons (jv 0) (ja_cons (jv 1) (ja_cons j_int ja_nil)))) ja_nil))))) jb_nil)
    (jb_cons (js_setLc (i := 5) (own := [("sign", 7)]) rfl sc__law_qt_rival.nd (ji_any (jv 2)) (blkOk_by (own := [("sign", 7)]) (N := N__law_qt_rival) (sc := defScope s__law_qt_rival) (by decide +kernel)) (fun _ _ _ _ _ => pg_name (i := 7) sc__law_qt_rival.nd rfl (by first | exact Or.inl rfl | exact Or.inr rfl)) sg_name (ow_name (by decide)) (fun _ _ _ _ _ => (jts_one (jt_cmp op_notInA s_notInA (jv 7) (je_ix ix_seq s_ix (jv 1) j_int) rfl))) (fun _ _ _ _ _ => (jv 7)) (sw_true rfl rfl rfl (by decide +kernel)))
    (jb_cons (js_if (JW.jt (jw_and (jt_cmp (op_eqA hu) s_eqA (jv 4) j_int (nomark _)) (jw_and1 (jt_cmp (op_neA hu) s_neA (jv 5) (je_lst ja_nil) (nomark _))))) (jb_one (js_ret (je_def D__law_qt_widened hr hgd tk (ja_cons (jv 1) (ja_cons (je_ix ix_seq s_ix (jv 5) (je_def D__law_coin hr hgd tk (ja_cons (jv 0) (ja_cons (je_callB call_lenA c_len T.b_len (by decide +kernel) (ja_cons (jv 5) ja_nil)) ja_nil)))) ja_nil))))) jb_nil)
    (jb_cons (js_set (i := 6) sc__law_qt_rival.nd (je_bm PySem.F.plainAttrs_str PySem.F.slot_str_join PySem.F.type_str_join mt_join m_join j_str (ja_cons (je_lc (own := [("sign", 7)]) rfl sc__law_qt_rival.nd (ji_any (jv 2)) (blkOk_by (own := [("sign", 7)]) (N := N__law_qt_rival) (sc := defScope s__law_qt_rival) (by decide +kernel)) (fun _ _ _ _ _ => pg_name (i := 7) sc__law_qt_rival.nd rfl (by first | exact Or.inl rfl | exact Or.inr rfl)) sg_name (ow_name (by decide)) (fun _ _ _ _ _ => (jts_one (jt_cmp op_gt s_gt (je_def D__law_coin hr hgd takes0 (ja_cons (jv 0) (ja_cons j_int ja_nil))) j_int (nomark _)))) (fun _ _ _ _ _ => (jv 7))) ja_nil)))
    (jb_one (js_ret (je_def D__law_qt_sheet hr hgd tk (ja_cons (jv 0) (ja_cons (jv 6) (ja_cons (jv 3) ja_nil)))))))))))))) (takes_of rfl rfl rfl rfl) (passes_of rfl)
theorem D__law_qt_rival (T : Tx K mg) : Def1 P w K mg base "_law_qt_rival" 3 (Dn 4 d__law_qt_rival) := by
  obtain ⟨fd, F⟩ := T.f__law_qt_rival
  exact ⟨_, fd, ["sack", "sheet", "letters", "high"], G__law_qt_rival T F, T.m__law_qt_rival, F.kp, binds_of F fun _ _ _ _ _ _ us hl => match us, hl with | [_, _, _, _], _ => rfl⟩
theorem G__law_right {fd : FuncData} (T : Tx K mg) (F : Fun K "_law_right" "_law_right" s__law_right (ga K "_law_right") fd) : FnG P w K mg base 12 (ga K "_law_right") fd ["sack"] (toSp K (Dn 1 d__law_right)) := by
  have D_apart := D_apart (P := P) (w := w) (base := base) T
  have D__law_qt_first := D__law_qt_first (P := P) (w := w) (base := base) T
  have D__law_coin := D__law_coin (P := P) (w := w) (base := base) T
  have D__law_qt_renumbered := D__law_qt_renumbered (P := P) (w := w) (base := base) T
  have D__law_qt_copy := D__law_qt_copy (P := P) (w := w) (base := base) T
  have D__law_qt_rival := D__law_qt_rival (P := P) (w := w) (base := base) T
  have D__law_qt_sheet := D__law_qt_sheet (P := P) (w := w) (base := base) T
  have D__law_qt_letters := D__law_qt_letters (P := P) (w := w) (base := base) T
  have DK_apart := DK_apart (P := P) (w := w) (base := base) T
  refine FnD.ok (k := 11) F sc__law_right (fun ts μ PT PX h => h.1) (ws := (w__law_right (cE K))) (fun cdv A outer s H E hr hgd => ?_) (fun ts μ PT PX h => p__law_right (cE K) ts μ PT PX h.2)
  have hu := hr.units
  exact body_of (fun tk hp => (jb_cons (js_set (i := 1) sc__law_right.nd (je_def D__law_qt_letters hr hgd tk (ja_cons (jv 0) (ja_cons (j_op op_addA s_addA j_int (je_def D__law_coin hr hgd tk (ja_cons (jv 0) (ja_cons j_int ja_nil)))) ja_nil))))
    (jb_cons (js_set (i := 2) sc__law_right.nd (je_ix ix_seq s_ix (je_lst (ja_cons j_int (ja_cons j_int (ja_cons j_int ja_nil)))) (je_def D__law_coin hr hgd tk (ja_cons (jv 0) (ja_cons j_int ja_nil)))))
    (jb_cons (js_set (i := 3) sc__law_right.nd (je_bm PySem.F.plainAttrs_str PySem.F.slot_str_join PySem.F.type_str_join mt_join m_join j_str (ja_cons (je_lc (own := [("sign", 13)]) rfl sc__law_right.nd (ji_any (jv 1)) (blkOk_by (own := [("sign", 13)]) (N := N__law_right) (sc := defScope s__law_right) (by decide +kernel)) (fun _ _ _ _ _ => pg_name (i := 13) sc__law_right.nd rfl (by first | exact Or.inl rfl | exact Or.inr rfl)) sg_name (ow_name (by decide)) (fun _ _ _ _ _ => (jts_one (jt_cmp op_gt s_gt (je_def D__law_coin hr hgd takes0 (ja_cons (jv 0) (ja_cons j_int ja_nil))) j_int (nomark _)))) (fun _ _ _ _ _ => (jv 13))) ja_nil)))
    (jb_cons (js_set (i := 4) sc__law_right.nd (je_def D__law_qt_sheet hr hgd tk (ja_cons (jv 0) (ja_cons (jv 3) (ja_cons (jv 2) ja_nil)))))
    (jb_cons (js_set (i := 5) sc__law_right.nd (je_def D__law_qt_rival hr hgd tk (ja_cons (jv 0) (ja_cons (jv 4) (ja_cons (jv 1) (ja_cons (jv 2) ja_nil))))))
    (jb_cons (js_set (i := 6) sc__law_right.nd (je_defV D__law_qt_first hr hgd tk (ja_cons (jv 4) (ja_cons (jv 5) (ja_cons j_bl ja_nil)))))
    (jb_cons (js_par (i := 7) (j := 8) rfl sc__law_right.nd (by decide) (ja_cons (je_def D__law_qt_copy hr hgd tk (ja_cons (jv 4) ja_nil)) (ja_cons (je_def D__law_qt_copy hr hgd tk (ja_cons (jv 5) ja_nil)) ja_nil)))
    (jb_cons (js_if (JW.jt (jw_or (jt_cmp (op_neA hu) s_neA (je_callB (call_reprD hgd hu) c_repr T.b_repr (by decide +kernel) (ja_cons (je_def D_apart hr hgd tk (ja_cons (jv 7) (ja_cons (jv 8) ja_nil))) ja_nil)) (je_callB (call_reprD hgd hu) c_repr T.b_repr (by decide +kernel) (ja_cons (jv 6) ja_nil)) (nomark _)) (jw_or1 (jt_cmp (op_neA hu) s_neA (je_callB (call_reprD hgd hu) c_repr T.b_repr (by decide +kernel) (ja_cons (je_def D_apart hr hgd tk (ja_cons (jv 8) (ja_cons (jv 7) ja_nil))) ja_nil)) (je_callB (call_reprD hgd hu) c_repr T.b_repr (by decide +kernel) (ja_cons (jv 6) ja_nil)) (nomark _))))) (jb_one (js_ret j_bl)) jb_nil)
    (jb_cons (js_if (JW.jt (jw_or (jt_cmp (op_neA hu) s_neA (jv 7) (jv 4) (nomark _)) (jw_or1 (jt_cmp (op_neA hu) s_neA (jv 8) (jv 5) (nomark _))))) (jb_one (js_ret j_bl)) jb_nil)
    (jb_cons (js_set (i := 9) sc__law_right.nd (je_def D__law_qt_renumbered hr hgd tk (ja_cons (jv 0) (ja_cons (jv 4) (ja_cons j_int ja_nil)))))
    (jb_cons (js_if (JW.jt (jw_or (jt_cmp op_notN s_notN (je_def D_apart hr hgd tk (ja_cons (jv 4) (ja_cons (jv 9) ja_nil))) j_non (nomark _)) (jw_or1 (jt_cmp op_notN s_notN (je_defK (ks := ["one", "other"]) DK_apart hr hgd tk (jk_cons (jv 9) (jk_cons (jv 4) jk_nil))) j_non (nomark _))))) (jb_one (js_ret j_bl)) jb_nil)
    (jb_cons (js_for hp rfl (ji_r1 T.b_range (ja_cons j_int ja_nil)) (jg_name (i := 10) sc__law_right.nd) (jb_cons (js_set (i := 11) sc__law_right.nd (je_ix ix_seq s_ix (je_lst (ja_cons (jv 7) (ja_cons (jv 8) ja_nil))) (je_def D__law_coin hr hgd tk (ja_cons (jv 0) (ja_cons j_int ja_nil)))))
    (jb_cons (js_set (i := 12) sc__law_right.nd (je_def D__law_coin hr hgd tk (ja_cons (jv 0) (ja_cons (je_callB call_lenA c_len T.b_len (by decide +kernel) (ja_cons (je_ix ix_seq s_ix (jv 11) j_int) ja_nil)) ja_nil))))
    (jb_cons (js_expr (je_bm0 PySem.F.plainAttrs_list PySem.F.slot_list_reverse PySem.F.type_list_reverse mt_reverse m_reverse (je_ix ix_seq s_ix (je_ix ix_seq s_ix (jv 11) j_int) (jv 12))))
    (jb_cons (js_if (jt_cmp op_inA s_inA (jv 12) (je_ix ix_seq s_ix (jv 11) j_int) rfl) (jb_one (js_expr (je_bm PySem.F.plainAttrs_list PySem.F.slot_list_remove PySem.F.type_list_remove mt_remove m_remove (je_ix ix_seq s_ix (jv 11) j_int) (ja_cons (jv 12) ja_nil)))) jb_nil)
    (jb_cons (js_set (i := 6) sc__law_right.nd (je_defV D__law_qt_first hr hgd tk (ja_cons (jv 7) (ja_cons (jv 8) (ja_cons j_bl ja_nil)))))
    (jb_one (js_if (JW.jt (jw_or (jt_cmp (op_neA hu) s_neA (je_callB (call_reprD hgd hu) c_repr T.b_repr (by decide +kernel) (ja_cons (je_defK (ks := ["one", "other"]) DK_apart hr hgd tk (jk_cons (jv 7) (jk_cons (jv 8) jk_nil))) ja_nil)) (je_callB (call_reprD hgd hu) c_repr T.b_repr (by decide +kernel) (ja_cons (jv 6) ja_nil)) (nomark _)) (jw_or1 (jt_cmp (op_neA hu) s_neA (je_callB (call_reprD hgd hu) c_repr T.b_repr (by decide +kernel) (ja_cons (je_def D_apart hr hgd tk (ja_cons (jv 8) (ja_cons (jv 7) ja_nil))) ja_nil)) (je_callB (call_reprD hgd hu) c_repr T.b_repr (by decide +kernel) (ja_cons (jv 6) ja_nil)) (nomark _))))) (jb_one (js_ret j_bl)) jb_nil))))))))
    (jb_one (js_ret (j_cmp op_isN s_isN (je_def D_apart hr hgd tk (ja_cons (jv 7) (ja_cons (jv 7) ja_nil))) j_non (nomark _))))))))))))))))) (takes_of rfl rfl rfl rfl) (passes_of rfl)
theorem D__law_right (T : Tx K mg) : Def1 P w K mg base "_law_right" 12 (Dn 1 d__law_right) := by
  obtain ⟨fd, F⟩ := T.f__law_right
  exact ⟨_, fd, ["sack"], G__law_right T F, T.m__law_right, F.kp, binds_of F fun _ _ _ _ _ _ us hl => match us, hl with | [_], _ => rfl⟩
theorem G_law {fd : FuncData} (T : Tx K mg) (F : Fun K "law" "law" s_law (ga K "law") fd) : FnG P w K mg base 13 (ga K "law") fd ["script"] (toSp K (Dn 1 d_law)) := by
  have D__law_right := D__law_right (P := P) (w := w) (base := base) T
  have D__law_purse := D__law_purse (P := P) (w := w) (base := base) T
  refine FnD.ok (k := 12) F sc_law (fun ts μ PT PX h => h.1) (ws := w_law) (fun cdv A outer s H E hr hgd => ?_) (fun ts μ PT PX h => p_law ts μ PT PX h.2)
  have hu := hr.units
  exact body_of (fun tk hp => (jb_cons (js_for hp rfl (ji_r1 T.b_range (ja_cons (je_callB (call_max2 rfl) c_max T.b_max (by decide +kernel) (ja_cons j_int (ja_cons (je_callB (call_min2 rfl) c_min T.b_min (by decide +kernel) (ja_cons j_int (ja_cons (je_callB call_lenA c_len T.b_len (by decide +kernel) (ja_cons (jv 0) ja_nil)) ja_nil))) ja_nil))) ja_nil)) (jg_name (i := 1) sc_law.nd) (jb_cons (js_set (i := 2) sc_law.nd (je_def D__law_purse hr hgd tk (ja_cons (jv 0) (ja_cons (jv 1) ja_nil))))
    (jb_one (js_if (jt_not (jt_tru (je_def D__law_right hr hgd tk (ja_cons (jv 2) ja_nil)))) (jb_one (js_ret j_bl)) jb_nil))))
    (jb_one (js_ret j_bl)))) (takes_of rfl rfl rfl rfl) (passes_of rfl)
end
theorem facts {P : Program} {w : World} {K : PySem.W.Frag} {h : Heap} {mg : Str → Option Value} {f : Addr} (X : K.In h) (G : h.Ns mainGlobals mg) (hfa : mg ("law" : Str) = some (.ref f)) (c : SaysN fa fn K) :
    ∃ (fd : FuncData), (∀ (s : Shared) (v : Value), BindsTo s fd ⟨[v], []⟩ [("script", v)]) ∧ ∀ base : Heap, K.In base → base.Ns mainGlobals mg → FnG P w K mg base 13 f fd ["script"] (toSp K (Dn 1 d_law)) := by
  have T := tx_of X G c
  have e := hfa.symm.trans T.m_law
  cases e
  obtain ⟨fd, F⟩ := T.f_law
  have b : Binds K fd ["script"] [] := binds_of F fun _ _ _ _ _ _ us hl => match us, hl with | [_], _ => rfl
  exact ⟨fd, fun s v => (by
    obtain ⟨oc, od, kV, doc, pm, an, cdv, ct, osl, rfl, lk, hcd⟩ := F.ex
    exact BindsTo.of_looks fun M => by
      have e : bindArgs (PySem.W.fnOf "law" "law" (defArgs s_law) (defBody s_law) (defScope s_law) .none kV doc pm an cdv ct) ⟨[v], []⟩ = (pure [(("script" : Str), v)] : Sem (List (Str × Value))) := rfl
      rw [e]
      exact .now), fun base _ _ => G_law T F⟩
end DL.K18
open PySem PySem.W PySem.Calls PyProof.Rows
theorem PySem.Challenge.cw_splicedfilms_k18_the_first_text_apart_holds : PySem.Challenge.rw_splicedfilms_k18_the_first_text_apart.Holds := by
  w_on; o_law
  refine HandSHeadRun.head_any (r := OpenLaw.row PySem.Challenge.rw_splicedfilms_k18_the_first_text_apart) (q := view (OpenLaw.row PySem.Challenge.rw_splicedfilms_k18_the_first_text_apart).prog [26]) (H := DL.K18.hk) (ob := DL.K18.ob) (M := 20000) (loose := ["FilmError", "InvalidTable", "PICTURES", "first_text", "GONE", "is_rising", "check_table", "next_state", "first_apart", "apart", "_law_purse", "_law_coin", "_law_qt_letters", "_law_qt_copy", "_law_qt_sheet", "_law_qt_renumbered", "_law_qt_next", "_law_qt_bent", "_law_qt_first", "_law_qt_rival", "_law_qt_widened", "_law_right"]) (d := HandSHeadRun.topDef (OpenLaw.row PySem.Challenge.rw_splicedfilms_k18_the_first_text_apart).prog 26) (kwd := []) DL.K18.ob_eq
    (by kernel_rfl) (fun s => by kernel_rfl) DL.K18.run (by kernel_rfl) (by kernel_rfl) (by kernel_rfl) (by rfl) (by first | assumption | decide +kernel) (by decide +kernel) ⟨rfl, rfl, rfl, rfl, rfl, by decide +kernel⟩ ?hw ?hc
  case hw => w_witness2
  case hc =>
    refine DL.walkG (l := PySem.Challenge.rw_splicedfilms_k18_the_first_text_apart) (n := 63) (k := 13) (x := "script") rfl (by decide) (by kernel_rfl) ⟨rfl, by decide, by decide⟩ ?F
    intro w mg fa h Y G hmg0
    obtain ⟨K, KX, c, hT⟩ := Y
    have hmg : mg ("law" : PySem.Str) = some (.ref fa) := by
      have e : (HandSHeadRun.topDef (OpenLaw.row PySem.Challenge.rw_splicedfilms_k18_the_first_text_apart).prog 26).name = ("law" : PySem.Str) := by kernel_rfl
      rw [← e]
      exact hmg0
    obtain ⟨fd, hb, hF⟩ := DL.K18.facts (P := (PySem.Challenge.rw_splicedfilms_k18_the_first_text_apart).prog) (w := w) KX G hmg c
    exact ⟨K, fd, DL.Dn 1 DL.K18.d_law, KX, hT, hb, fun ns hl P hp => ⟨rfl, ns, rfl, rfl, hl, hp⟩, hF⟩
