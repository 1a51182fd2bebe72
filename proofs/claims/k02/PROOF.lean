import PyProof.Rows.All
import Wide.All
import OpenK.AllK
import Wide.FinOn
import HandS.ForMost
import HandS.Exc
import HandS.TryMany
import HandS.IsInst
import HandS.Deep
import HandS.Wide
import HandS.Nested
import HandS.ExcOwn
import HandS.TryOnly
import HandS.CallSlots
import HandS.WordsExc
import HandS.Text
import HandS.TupAny
import HandS.TupLe
import HandS.Conv
import HandS.TupLen
import HandS.Style
import HandS.AnyAll
import HandS.WordsDict
import HandS.More
import HandS.Zip
import HandS.Iter
import KE.SortData
import HandS.RaiseMore
import HandS.Small
import HandS.Flow
import HandS.DictComp
import HandS.Comp
import KE.KDictPairs
import KE.KExcSuper
import HandS.ExcInit
import HandS.ExcField
import HandS.MakeKwOnly
import HandS.Head0
import HandS.Head1
import HandS.Head2
import HandS.HeadHook1
import HandS.HeadHook2
import HandS.HeadHook3
import HandS.HeadHook4
import HandS.HeadWalk
import PySem.Challenge.RW_oneortwo_k02_whole_names_and_lots_refuse
set_option Elab.async false
section
set_option Elab.async false
set_option linter.all false
set_option maxRecDepth 100000
/-! DA: what a Python value is worth as plain data (D), the state of the few objects that change (S), how both lie in the heap (RD, StS, StE, Le). -/
namespace DV
open PySem PySem.Spec PyProof.Rows L2
abbrev Hp := L2.Hp

/-! ### data -/
inductive D where
  | non | bl (b : Bool) | int (i : Int) | str (x : Str)
  | lst (xs : List D) | tup (xs : List D) | dct (ks vs : List D)
  | ref (i : Nat)
  | inst (c : Nat) (vs : List D)
  | fn (i : Nat)
  | tag (i : Nat) (d : D)
  | exn (c : Nat) (vs : List D)
  | lam (i : Nat) (caps : List D)
  /-- the law's script; a list of the module's own top -/
  | scr (ns : List Int) | kl (xs : List D)
deriving Inhabited

mutual
/-- as the library's data, where it is plain -/
def D.pd : D → Option PyData
  | .non => some .none
  | .bl b => some (.bool b)
  | .int i => some (.int i)
  | .str x => some (.str x)
  | .lst xs => match D.pds xs with
    | some l => some (.list l)
    | none => none
  | .tup xs => match D.pds xs with
    | some l => some (.tuple l)
    | none => none
  | .tag _ d => d.pd
  | .dct _ _ => none
  | .ref _ => none
  | .inst _ _ => none
  | .fn _ => none
  | .exn _ _ => none
  | .lam _ _ => none
  | .scr _ => none
  | .kl _ => none
def D.pds : List D → Option (List PyData)
  | [] => some []
  | d :: ds => match d.pd, D.pds ds with
    | some a, some b => some (a :: b)
    | _, _ => none
end
mutual
/-- no reference from n on, no tag from t on -/
def D.low (n t : Nat) : D → Bool
  | .non => true
  | .bl _ => true
  | .int _ => true
  | .str _ => true
  | .lst xs => D.lows n t xs
  | .tup xs => D.lows n t xs
  | .dct ks vs => D.lows n t ks && D.lows n t vs
  | .ref i => decide (i < n)
  | .inst _ vs => D.lows n t vs
  | .fn _ => true
  | .tag i d => decide (i < t) && d.low n t
  | .exn _ _ => false
  | .lam _ _ => false
  | .scr _ => true
  | .kl xs => D.lows n t xs
def D.lows (n t : Nat) : List D → Bool
  | [] => true
  | d :: ds => d.low n t && D.lows n t ds
end
/-- the outermost tags off -/
def D.strip : D → D
  | .tag _ d => d.strip
  | d => d

/-- an object that changes -/
inductive MO where
  | lst (xs : List D)
  | dK (ks vs : List D) | dT (ks vs : List D)
  | ins (c : Nat) (vs : List D)
  | dead
structure S where
  mo : List MO
  tg : Nat

/-! ### how it lies in the heap -/
structure Wd where
  F : Addr → Prop
  al : List Addr
  ts : List V
/-- frozen data stay -/
structure Lf (W : Wd) (H : Hp) (W' : Wd) (H' : Hp) : Prop where
  fz : ∀ a, W.F a → W'.F a
  al : ∀ (i : Nat) (a : Addr), W.al[i]? = some a → W'.al[i]? = some a
  ts : ∀ (i : Nat) (v : V), W.ts[i]? = some v → W'.ts[i]? = some v
  at_ : ∀ a o, W.F a → H a = some o → H' a = some o
/-- what a lambda's value means in this frame: it stays while what is frozen stays -/
structure LamR where
  r : Nat → Addr → Wd → Hp → Prop
  st : ∀ i a W H W' H', Lf W H W' H' → r i a W H → r i a W' H'
structure Cfg where
  ca : Nat → Addr
  cf : Nat → List Str
  fa : Nat → Addr
  ex : Option (Addr × Addr)
  /-- tables of code objects; lambdas -/
  T : List NdefX.NTab
  lr : LamR
def keyD : Key → D
  | .inl i => .int i
  | .inr x => .str x
/-- a dict of such keys and values at a -/
def DctAt (H : Hp) (a : Addr) (ks : List D) (ws : List V) : Prop :=
  (∃ kvs : List (Key × V), H a = some (.dK kvs) ∧ ks = kvs.map (fun p => keyD p.1) ∧ ws = kvs.map (·.2)) ∨
  (∃ kvs : List (List Key × V), H a = some (.dT kvs) ∧ ks = kvs.map (fun p => D.tup (p.1.map keyD)) ∧ ws = kvs.map (·.2) ∧ kvs ≠ [])
/-- .. or an empty one that may get tuples as keys -/
def DctL (H : Hp) (a : Addr) (ks : List D) (ws : List V) : Prop :=
  (∃ kvs : List (Key × V), H a = some (.dK kvs) ∧ ks = kvs.map (fun p => keyD p.1) ∧ ws = kvs.map (·.2)) ∨
  (∃ kvs : List (List Key × V), H a = some (.dT kvs) ∧ ks = kvs.map (fun p => D.tup (p.1.map keyD)) ∧ ws = kvs.map (·.2))
theorem DctAt.l {H : Hp} {a : Addr} {ks : List D} {ws : List V} (h : DctAt H a ks ws) : DctL H a ks ws := by
  rcases h with h | ⟨kvs, h1, h2, h3, _⟩
  · exact .inl h
  · exact .inr ⟨kvs, h1, h2, h3⟩
def KL (K : PySem.W.Frag) (a : Addr) (xs : List V) : Prop :=
  ∃ (o : Obj) (its : Array Value) (n : Nat), K.lookup a = some o ∧ o.cls = .type "list" ∧ o.dict = none ∧ o.data = .seq its n ∧ its.size ≤ sizeLine ∧ Vals xs its.toList
mutual
def RD (C : Cfg) (K : PySem.W.Frag) (W : Wd) (H : Hp) : D → V → Prop
  | .non, v => v = .non
  | .bl b, v => v = .bl b
  | .int i, v => v = .int i
  | .str x, v => v = .str x
  | .lst xs, v => ∃ a vs, v = .ref a ∧ W.F a ∧ H a = some (.lst vs) ∧ RDs C K W H xs vs
  | .tup xs, v => ∃ a vs, v = .ref a ∧ W.F a ∧ H a = some (.tup vs) ∧ RDs C K W H xs vs
  | .dct ks vs, v => ∃ a ws, v = .ref a ∧ W.F a ∧ DctAt H a ks ws ∧ RDs C K W H vs ws
  | .ref i, v => ∃ a, W.al[i]? = some a ∧ v = .ref a
  | .inst c vs, v => ∃ a dx ws, v = .ref a ∧ W.F a ∧ H a = some (.ins (C.ca c) dx ((C.cf c).zip ws)) ∧ (C.cf c).length = ws.length ∧ RDs C K W H vs ws
  | .fn i, v => v = .ref (C.fa i)
  | .tag i d, v => W.ts[i]? = some v ∧ RD C K W H d v
  | .exn c vs, v => ∃ a dd ws, C.ex = some (a, dd) ∧ v = .ref a ∧ W.F dd ∧ H dd = some (.xd ((C.cf c).zip ws)) ∧ (C.cf c).length = ws.length ∧ RDs C K W H vs ws
  | .lam i caps, v => caps = [] ∧ ∃ a, v = .ref a ∧ C.lr.r i a W H
  | .scr ns, v => ∃ a, v = .ref a ∧ W.F a ∧ Rd H a (.lst (ns.map V.int))
  | .kl xs, v => ∃ a vs, v = .ref a ∧ KL K a vs ∧ RDs C K W H xs vs
def RDs (C : Cfg) (K : PySem.W.Frag) (W : Wd) (H : Hp) : List D → List V → Prop
  | [], vs => vs = []
  | d :: ds, vs => ∃ v r, vs = v :: r ∧ RD C K W H d v ∧ RDs C K W H ds r
end
def ntb (o : HO) : Prop := ∀ ps, o ≠ .tbl ps
def MOk (C : Cfg) (K : PySem.W.Frag) (W : Wd) (H : Hp) (a : Addr) : MO → Prop
  | .lst xs => ∃ vs, H a = some (.lst vs) ∧ RDs C K W H xs vs ∧ D.lows 0 0 xs = true
  | .dK ks vs => ∃ kvs : List (Key × V), H a = some (.dK kvs) ∧ ks = kvs.map (fun p => keyD p.1) ∧ RDs C K W H vs (kvs.map (·.2)) ∧ D.lows 0 0 vs = true
  | .dT ks vs => ∃ kvs : List (List Key × V), H a = some (.dT kvs) ∧ ks = kvs.map (fun p => D.tup (p.1.map keyD)) ∧ RDs C K W H vs (kvs.map (·.2)) ∧ D.lows 0 0 vs = true
  | .ins c vs => ∃ dx ws, H a = some (.ins (C.ca c) dx ((C.cf c).zip ws)) ∧ ws.length ≤ (C.cf c).length ∧ RDs C K W H vs ws ∧ D.lows 0 0 vs = true
  | .dead => True
/-- the tables of code objects; their code objects are frozen -/
def Tbs (T : List NdefX.NTab) (W : Wd) (H : Hp) : Prop := NdefX.TabsN T H ∧ ∀ p ∈ T, ∀ ps, H p.1 = some (.tbl ps) → ∀ (pos : Pos) (c : Addr), codeAmong pos ps.toList = some (.ref c) → W.F c
/-- the objects that change stand where W says; what is frozen is none of them -/
structure StS (C : Cfg) (K : PySem.W.Frag) (W : Wd) (H : Hp) (s : S) : Prop where
  len : W.al.length = s.mo.length
  tln : W.ts.length = s.tg
  nod : W.al.Nodup
  mo : ∀ (i : Nat) (o : MO) (a : Addr), s.mo[i]? = some o → W.al[i]? = some a → MOk C K W H a o
  fz : ∀ a, W.F a → H a ≠ none ∧ (∀ o, H a = some o → ntb o) ∧ ∀ i : Nat, W.al[i]? = some a → s.mo[i]? = some .dead
  alh : ∀ a ∈ W.al, H a ≠ none
  tb : Tbs C.T W H
abbrev Env := List (Option D)
structure StE (C : Cfg) (K : PySem.W.Frag) (W : Wd) (H : Hp) (σ : L2.St) (env : Env) (s : S) : Prop where
  st : StS C K W H s
  sl : σ.length = env.length
  sv : ∀ (i : Nat) (d : D), env[i]? = some (some d) → ∃ v, σ[i]? = some (some v) ∧ RD C K W H d v
/-- from one state to a later one -/
structure Le (W : Wd) (H : Hp) (s : S) (W' : Wd) (H' : Hp) (s' : S) : Prop where
  fz : ∀ a, W.F a → W'.F a
  al : ∀ (i : Nat) (a : Addr), W.al[i]? = some a → W'.al[i]? = some a
  ts : ∀ (i : Nat) (v : V), W.ts[i]? = some v → W'.ts[i]? = some v
  ext : ∀ a o, H a = some o → ntb o → (∀ i : Nat, W.al[i]? = some a → s.mo[i]? = some .dead) → H' a = some o
  dom : ∀ a, H a ≠ none → H' a ≠ none
  ded : ∀ i : Nat, s.mo[i]? = some .dead → s'.mo[i]? = some .dead
  new : ∀ (i : Nat) (a : Addr), W.al.length ≤ i → W'.al[i]? = some a → H a = none
  nw : ∀ a, W'.F a → W.F a ∨ H a = none ∨ a ∈ W.al

section
variable {C : Cfg} {K : PySem.W.Frag} {W W' W'' : Wd} {H H' H'' : Hp} {s s' s'' : S}
theorem Le.refl : Le W H s W H s :=
  ⟨fun _ h => h, fun _ _ h => h, fun _ _ h => h, fun _ _ h _ _ => h, fun _ h => h, fun _ h => h, (fun i a hi h => by
    rw [List.getElem?_eq_none hi] at h
    cases h), fun _ h => .inl h⟩
theorem Le.wasNone (p : Le W H s W' H' s') {a : Addr} (h : H' a = none) : H a = none := by
  cases e : H a with
  | none => rfl
  | some o => exact absurd h (p.dom a (by rw [e]; exact fun z => nomatch z))
theorem Le.old (p : Le W H s W' H' s') {a : Addr} (h : a ∈ W'.al) : a ∈ W.al ∨ H a = none := by
  obtain ⟨i, hi, e⟩ := List.mem_iff_getElem.mp h
  have e1 : W'.al[i]? = some a := by rw [List.getElem?_eq_getElem hi, e]
  by_cases hl : i < W.al.length
  · have e2 := p.al i _ (List.getElem?_eq_getElem hl)
    rw [e1] at e2
    rw [Option.some.inj e2]
    exact .inl (List.getElem_mem hl)
  · exact .inr (p.new i a (Nat.le_of_not_lt hl) e1)
theorem Le.trans (p : Le W H s W' H' s') (q : Le W' H' s' W'' H'' s'') : Le W H s W'' H'' s'' := by
  refine ⟨fun a h => q.fz a (p.fz a h), fun i a h => q.al i a (p.al i a h), fun i a h => q.ts i a (p.ts i a h), fun a o h n l => ?_, fun a h => q.dom a (p.dom a h), fun i h => q.ded i (p.ded i h), fun i a hi h => ?_, fun a h => ?_⟩
  · refine q.ext a o (p.ext a o h n l) n fun i hi => ?_
    by_cases hl : i < W.al.length
    · have e : W.al[i]? = some W.al[i] := List.getElem?_eq_getElem hl
      have e2 := p.al i _ e
      rw [e2] at hi
      have e3 : W.al[i] = a := Option.some.inj hi
      rw [e3] at e
      exact p.ded i (l i e)
    · have z := p.new i a (Nat.le_of_not_lt hl) hi
      rw [z] at h
      cases h
  · by_cases hl : i < W'.al.length
    · have e : W'.al[i]? = some W'.al[i] := List.getElem?_eq_getElem hl
      have e2 := q.al i _ e
      rw [e2] at h
      have e3 : W'.al[i] = a := Option.some.inj h
      rw [e3] at e
      exact p.new i a hi e
    · exact p.wasNone (q.new i a (Nat.le_of_not_lt hl) h)
  · rcases q.nw a h with z | z | z
    · exact p.nw a z
    · exact .inr (.inl (p.wasNone z))
    · exact .inr ((p.old z).symm)
/-- a frozen object stays as it is -/
theorem Le.frozen (p : Le W H s W' H' s') (t : StS C K W H s) {a : Addr} {o : HO} (h : W.F a) (e : H a = some o) : H' a = some o := by
  obtain ⟨_, n, l⟩ := t.fz a h
  exact p.ext a o e (n o e) l
theorem Le.lf (p : Le W H s W' H' s') (t : StS C K W H s) : Lf W H W' H' := ⟨p.fz, p.al, p.ts, fun _ _ f e => p.frozen t f e⟩
theorem Le.rd (p : Le W H s W' H' s') (t : StS C K W H s) {a : Addr} {u : HO} (h : W.F a) (e : Rd H a u) : Rd H' a u := by
  rcases e with e | ⟨o, e⟩
  · exact .inl (p.frozen t h e)
  · exact .inr ⟨o, p.frozen t h e⟩
theorem DctAt.same {a : Addr} {ks : List D} {ws : List V} (h : DctAt H a ks ws) (e : ∀ o, H a = some o → H' a = some o) : DctAt H' a ks ws := by
  rcases h with ⟨kvs, q, r⟩ | ⟨kvs, q, r⟩
  · exact .inl ⟨kvs, e _ q, r⟩
  · exact .inr ⟨kvs, e _ q, r⟩
mutual
theorem RD.mono (p : Le W H s W' H' s') (t : StS C K W H s) : ∀ (d : D) (v : V), RD C K W H d v → RD C K W' H' d v
  | .non, _, q => q
  | .bl _, _, q => q
  | .int _, _, q => q
  | .str _, _, q => q
  | .lst xs, v, q => by
    obtain ⟨a, vs, e, f, l, r⟩ := q
    exact ⟨a, vs, e, p.fz a f, p.frozen t f l, RDs.mono p t xs vs r⟩
  | .tup xs, v, q => by
    obtain ⟨a, vs, e, f, l, r⟩ := q
    exact ⟨a, vs, e, p.fz a f, p.frozen t f l, RDs.mono p t xs vs r⟩
  | .scr ns, v, q => by
    obtain ⟨a, e, f, l⟩ := q
    exact ⟨a, e, p.fz a f, p.rd t f l⟩
  | .kl xs, v, q => by
    obtain ⟨a, vs, e, l, r⟩ := q
    exact ⟨a, vs, e, l, RDs.mono p t xs vs r⟩
  | .dct ks vs, v, q => by
    obtain ⟨a, ws, e, f, l, r⟩ := q
    exact ⟨a, ws, e, p.fz a f, l.same fun o z => p.frozen t f z, RDs.mono p t vs ws r⟩
  | .ref i, v, q => by
    obtain ⟨a, l, e⟩ := q
    exact ⟨a, p.al i a l, e⟩
  | .inst c vs, v, q => by
    obtain ⟨a, dx, ws, e, f, l, n, r⟩ := q
    exact ⟨a, dx, ws, e, p.fz a f, p.frozen t f l, n, RDs.mono p t vs ws r⟩
  | .fn _, _, q => q
  | .tag i d, v, q => ⟨p.ts i v q.1, RD.mono p t d v q.2⟩
  | .exn c vs, v, q => by
    obtain ⟨a, dd, ws, x, e, f, l, n, r⟩ := q
    exact ⟨a, dd, ws, x, e, p.fz dd f, p.frozen t f l, n, RDs.mono p t vs ws r⟩
  | .lam i caps, v, q => by
    obtain ⟨e, a, e2, r⟩ := q
    exact ⟨e, a, e2, C.lr.st i a _ _ _ _ (p.lf t) r⟩
theorem RDs.mono (p : Le W H s W' H' s') (t : StS C K W H s) : ∀ (ds : List D) (vs : List V), RDs C K W H ds vs → RDs C K W' H' ds vs
  | [], _, q => q
  | d :: ds, vs, q => by
    obtain ⟨v, r, e, h1, h2⟩ := q
    exact ⟨v, r, e, RD.mono p t d v h1, RDs.mono p t ds r h2⟩
end
theorem RDs.length : ∀ {ds : List D} {vs : List V}, RDs C K W H ds vs → ds.length = vs.length
  | [], vs, q => by
    have e : vs = [] := q
    rw [e]
    rfl
  | d :: ds, vs, q => by
    obtain ⟨v, r, e, _, h2⟩ := q
    rw [e, List.length_cons, List.length_cons, RDs.length h2]
theorem RDs.get : ∀ {ds : List D} {vs : List V} {i : Nat} {d : D}, RDs C K W H ds vs → ds[i]? = some d → ∃ v, vs[i]? = some v ∧ RD C K W H d v
  | [], _, _, _, _, h => by simp at h
  | d :: ds, vs, 0, d', q, h => by
    obtain ⟨v, r, e, h1, _⟩ := q
    have e2 : d = d' := by simpa using h
    subst e2
    exact ⟨v, by rw [e]; rfl, h1⟩
  | d :: ds, vs, i + 1, d', q, h => by
    obtain ⟨v, r, e, _, h2⟩ := q
    obtain ⟨w, g1, g2⟩ := RDs.get (i := i) h2 (by simpa using h)
    exact ⟨w, by rw [e]; simpa using g1, g2⟩
theorem RDs.append : ∀ {ds es : List D} {vs ws : List V}, RDs C K W H ds vs → RDs C K W H es ws → RDs C K W H (ds ++ es) (vs ++ ws)
  | [], es, vs, ws, q, h => by
    have e : vs = [] := q
    rw [e]
    exact h
  | d :: ds, es, vs, ws, q, h => by
    obtain ⟨v, r, e, h1, h2⟩ := q
    rw [e]
    exact ⟨v, r ++ ws, rfl, h1, RDs.append h2 h⟩
theorem RD.strip : ∀ {d : D} {v : V}, RD C K W H d v → RD C K W H d.strip v
  | .tag i d, v, q => RD.strip (d := d) q.2
  | .non, _, q => q
  | .bl _, _, q => q
  | .int _, _, q => q
  | .str _, _, q => q
  | .lst _, _, q => q
  | .tup _, _, q => q
  | .dct _ _, _, q => q
  | .ref _, _, q => q
  | .inst _ _, _, q => q
  | .fn _, _, q => q
  | .exn _ _, _, q => q
  | .lam _ _, _, q => q
  | .scr _, _, q => q
  | .kl _, _, q => q
end
/-! ### tables of code objects -/
def plainO (o : HO) : Prop := (∀ ps, o ≠ .tbl ps) ∧ ∀ φ, o ≠ .ext φ
def plainAt (H : Hp) (p : Addr) : Prop := ∀ o, H p = some o → plainO o
theorem plainAt.none {H : Hp} {p : Addr} (h : H p = Option.none) : plainAt H p := fun o e => by rw [h] at e; cases e
theorem plainAt.of {H : Hp} {p : Addr} {o : HO} (h : H p = some o) (q : plainO o) : plainAt H p := fun o' e => by rw [h] at e; cases e; exact q
theorem plain_lst {xs : List V} : plainO (.lst xs) := ⟨(fun _ z => nomatch z), (fun _ z => nomatch z)⟩
theorem plain_dK {xs : List (Key × V)} : plainO (.dK xs) := ⟨(fun _ z => nomatch z), (fun _ z => nomatch z)⟩
theorem plain_dT {xs : List (List Key × V)} : plainO (.dT xs) := ⟨(fun _ z => nomatch z), (fun _ z => nomatch z)⟩
theorem plain_ins {c d : Addr} {fs : List (Str × V)} : plainO (.ins c d fs) := ⟨(fun _ z => nomatch z), (fun _ z => nomatch z)⟩
theorem tabs_keep {T : List NdefX.NTab} {H H' : Hp} (t : NdefX.TabsN T H) (h : ∀ a o, H a = some o → ¬ plainO o → H' a = some o) : NdefX.TabsN T H' := fun p hp => by
  obtain ⟨ps, h1, h2, h3⟩ := t p hp
  refine ⟨ps, h _ _ h1 (fun z => z.1 ps rfl), h2, fun pos cv hc => ?_⟩
  obtain ⟨c, e1, e2⟩ := h3 pos cv hc
  refine ⟨c, e1, h _ _ e2 fun z => ?_⟩
  unfold LamX.CodeO at z
  exact z.2 _ rfl
theorem tbs_at {T : List NdefX.NTab} {W W' : Wd} {H H' : Hp} (t : Tbs T W H) (h : ∀ a o, H a = some o → ¬ plainO o → H' a = some o) (hF : ∀ a, W.F a → W'.F a) : Tbs T W' H' := ⟨tabs_keep t.1 h, fun p hp ps e pos c hc => by
  obtain ⟨qs, h1, _⟩ := t.1 p hp
  have h2 := h _ _ h1 fun z => z.1 qs rfl
  rw [e] at h2
  cases h2
  exact hF c (t.2 p hp _ h1 pos c hc)⟩
theorem tabs_upd {T : List NdefX.NTab} {W W' : Wd} {H : Hp} {p : Addr} {o : HO} (t : Tbs T W H) (hp : plainAt H p) (hF : ∀ a, W.F a → W'.F a := by exact fun _ h => h) : Tbs T W' (L2.upd H p o) := tbs_at t (fun a u e n => by
  have ne : a ≠ p := fun z => n (hp u (by rw [← z]; exact e))
  rw [upd_ne ne]
  exact e) hF
theorem tbs_mono {T : List NdefX.NTab} {W W' : Wd} {H : Hp} (t : Tbs T W H) (hF : ∀ a, W.F a → W'.F a) : Tbs T W' H := tbs_at t (fun _ _ h _ => h) hF
end DV
end
section
set_option Elab.async false
set_option linter.all false
set_option maxRecDepth 100000
/-! DB: the judgements over data, their plumbing, expressions. -/
namespace DV
open PySem PySem.Spec PyProof.Rows L2

/-! ### results -/
inductive Out (α : Type) where
  | ok (a : α) (s : S) | exc (c : Nat) (vs : List D) (s : S) | stuck
def Out.bind {α β : Type} : Out α → (α → S → Out β) → Out β
  | .ok a s, f => f a s
  | .exc c vs s, _ => .exc c vs s
  | .stuck, _ => .stuck
def Out.of {α : Type} (o : Option α) (s : S) : Out α := match o with
  | some a => .ok a s
  | none => .stuck
abbrev Ex := Env → S → Out D
abbrev Tx := Env → S → Out Bool
abbrev Ax := Env → S → Out (List D)

/-- what a result wants of what comes -/
def Res {α β : Type} (C : Cfg) (K : PySem.W.Frag) (R : Wd → Hp → α → β → Prop) (Wx : WX) (σ : L2.St) (env : Env) (W : Wd) (H : Hp) (s : S) (o : Out α) (Q : β → Hp → Prop) : Prop :=
  match o with
  | .ok a s' => ∀ W' H' b, Le W H s W' H' s' → StE C K W' H' σ env s' → R W' H' a b → Q b H'
  | .exc c vs s' => ∀ W' H' dd ws, Le W H s W' H' s' → StE C K W' H' σ env s' → W'.F dd → H' dd = some (.xd ((C.cf c).zip ws)) → (C.cf c).length = ws.length → RDs C K W' H' vs ws → Wx (.ref (C.ca c)) (some dd) σ H'
  | .stuck => False
section
variable {C : Cfg} {K : PySem.W.Frag} {Wx : WX} {σ : L2.St} {env : Env} {W W' : Wd} {H H' : Hp} {s s' : S} {α β γ δ : Type} {R : Wd → Hp → α → β → Prop} {R' : Wd → Hp → γ → δ → Prop}
theorem Res.later {o : Out α} {Q : β → Hp → Prop} (h : Res C K R Wx σ env W H s o Q) (l : Le W H s W' H' s') : Res C K R Wx σ env W' H' s' o Q := by
  cases o with
  | ok a s2 => exact fun W2 H2 b q e r => h W2 H2 b (l.trans q) e r
  | exc c vs s2 => exact fun W2 H2 dd ws q e f g n r => h W2 H2 dd ws (l.trans q) e f g n r
  | stuck => exact h
theorem Res.step {o : Out α} {k : α → S → Out γ} {Q : δ → Hp → Prop} {Q1 : β → Hp → Prop} (h : Res C K R' Wx σ env W H s (o.bind k) Q)
    (f : ∀ W1 H1 s1 a b, Le W H s W1 H1 s1 → StE C K W1 H1 σ env s1 → R W1 H1 a b → Res C K R' Wx σ env W1 H1 s1 (k a s1) Q → Q1 b H1) : Res C K R Wx σ env W H s o Q1 := by
  cases o with
  | ok a s2 => exact fun W2 H2 b q e r => f W2 H2 s2 a b q e r (Res.later h q)
  | exc c vs s2 => exact h
  | stuck => exact h
theorem Res.imp {o : Out α} {Q Q' : β → Hp → Prop} (h : Res C K R Wx σ env W H s o Q) (f : ∀ b H', Q b H' → Q' b H') : Res C K R Wx σ env W H s o Q' := by
  cases o with
  | ok a s2 => exact fun W2 H2 b q e r => f _ _ (h W2 H2 b q e r)
  | exc c vs s2 => exact h
  | stuck => exact h
theorem Res.here {a : α} {b : β} {Q : β → Hp → Prop} (h : Res C K R Wx σ env W H s (.ok a s) Q) (e : StE C K W H σ env s) (r : R W H a b) : Q b H := h W H b Le.refl e r
end
/-- the state grows or changes: the frame's values stay -/
theorem StE.later {C : Cfg} {K : PySem.W.Frag} {σ : L2.St} {env : Env} {W W' : Wd} {H H' : Hp} {s s' : S} (e : StE C K W H σ env s) (l : Le W H s W' H' s') (t : StS C K W' H' s') : StE C K W' H' σ env s' :=
  ⟨t, e.sl, fun i d h => let ⟨v, a, b⟩ := e.sv i d h; ⟨v, a, b.mono l e.st⟩⟩

/-! ### readings of data -/
def rB : Wd → Hp → Bool → Bool → Prop := fun _ _ a b => a = b
def tD (C : Cfg) (K : PySem.W.Frag) (Wx : WX) (f : Ex) : TE := fun σ H Q => ∃ W env s, StE C K W H σ env s ∧ Res C K (fun W H => RD C K W H) Wx σ env W H s (f env s) Q
def tT (C : Cfg) (K : PySem.W.Frag) (Wx : WX) (f : Tx) : TT := fun σ H Q => ∃ W env s, StE C K W H σ env s ∧ Res C K rB Wx σ env W H s (f env s) Q
def tAx (C : Cfg) (K : PySem.W.Frag) (Wx : WX) (f : Ax) : TA := fun σ H Q => ∃ W env s, StE C K W H σ env s ∧ Res C K (fun W H => RDs C K W H) Wx σ env W H s (f env s) Q
def DE (C : Cfg) (X : Cx) (Wx : WX) (e : Expr) (f : Ex) : Prop := PE X e (tD C X.K Wx f)
def DT (C : Cfg) (X : Cx) (Wx : WX) (e : Expr) (f : Tx) : Prop := PT X e (tT C X.K Wx f)
def DW (C : Cfg) (X : Cx) (Wx : WX) (e : Expr) (f : Tx) : Prop := PW X e (tT C X.K Wx f)
def DA (C : Cfg) (X : Cx) (Wx : WX) (es : List Expr) (f : Ax) : Prop := PA X es (tAx C X.K Wx f)
theorem PE.imp {X : Cx} {e : Expr} {t t' : TE} (h : PE X e t) (f : ∀ σ H Q, t' σ H Q → t σ H Q) : PE X e t' := ⟨fun pins s σ H Q I q => h.run pins s σ H Q I (f _ _ _ q)⟩
theorem PT.imp {X : Cx} {e : Expr} {t t' : TT} (h : PT X e t) (f : ∀ σ H Q, t' σ H Q → t σ H Q) : PT X e t' := ⟨fun pins s σ H Q I q => h.run pins s σ H Q I (f _ _ _ q)⟩
theorem PW.imp {X : Cx} {e : Expr} {t t' : TT} (h : PW X e t) (f : ∀ σ H Q, t' σ H Q → t σ H Q) : PW X e t' := ⟨fun wh pins s σ H Q I q => h.run wh pins s σ H Q I (f _ _ _ q)⟩
theorem PA.imp {X : Cx} {e : List Expr} {t t' : TA} (h : PA X e t) (f : ∀ σ H Q, t' σ H Q → t σ H Q) : PA X e t' := ⟨fun pos pins s σ H Q I q => h.run pos pins s σ H Q I (f _ _ _ q)⟩
theorem DW.dt {C : Cfg} {X : Cx} {Wx : WX} {e : Expr} {f : Tx} (h : DW C X Wx e f) : DT C X Wx e f := PW.pt h

/-! ### combinators -/
def xVar (i : Nat) : Ex := fun e s => match e[i]? with
  | some (some d) => .ok d s
  | _ => .stuck
def xC (d : D) : Ex := fun _ s => .ok d s
def xBin (g : S → D → D → Option D) (a b : Ex) : Ex := fun e s => (a e s).bind fun x s => (b e s).bind fun y s => Out.of (g s x y) s
def xUn (g : S → D → Option D) (a : Ex) : Ex := fun e s => (a e s).bind fun x s => Out.of (g s x) s
def xIf (t : Tx) (a b : Ex) : Ex := fun e s => (t e s).bind fun c s => if c = true then a e s else b e s
def xAnd (a b : Ex) : Ex := fun e s => (a e s).bind fun x s => match x.strip with
  | .bl true => b e s
  | .bl false => .ok (.bl false) s
  | _ => .stuck
def xOr (a b : Ex) : Ex := fun e s => (a e s).bind fun x s => match x.strip with
  | .bl true => .ok (.bl true) s
  | .bl false => b e s
  | _ => .stuck
def xNot (a : Ex) : Ex := fun e s => (a e s).bind fun x s => match x.strip with
  | .bl b => .ok (.bl (!b)) s
  | _ => .stuck
def aNil : Ax := fun _ s => .ok [] s
def aCons (a : Ex) (r : Ax) : Ax := fun e s => (a e s).bind fun x s => (r e s).bind fun xs s => .ok (x :: xs) s
def xLst (a : Ax) : Ex := fun e s => (a e s).bind fun xs s => if xs.length ≤ sizeLine then .ok (.lst xs) s else .stuck
def xTup (a : Ax) : Ex := fun e s => (a e s).bind fun xs s => if xs.length ≤ sizeLine then .ok (.tup xs) s else .stuck
def xCall (g : S → List D → Out D) (a : Ax) : Ex := fun e s => (a e s).bind fun xs s => g s xs
def xBl (t : Tx) : Ex := fun e s => (t e s).bind fun b s => .ok (.bl b) s
def tVal (a : Ex) : Tx := fun e s => (a e s).bind fun x s => match x.strip with
  | .bl b => .ok b s
  | _ => .stuck
def tNot (t : Tx) : Tx := fun e s => (t e s).bind fun b s => .ok (!b) s
def tAnd (t u : Tx) : Tx := fun e s => (t e s).bind fun b s => if b = true then u e s else .ok false s
def tOr (t u : Tx) : Tx := fun e s => (t e s).bind fun b s => if b = true then .ok true s else u e s

section
variable {C : Cfg} {X : Cx} {Wx : WX} {a b c : Expr} {fa fb fc : Ex} {pos : Pos} {rest : List Expr} {ft fu : Tx}
theorem de_var {i : Nat} {x : Str} (hN : X.N[i]? = some x) (hv : Vis X.env.scope x) (hd : (x == ("__debug__" : Str)) = false := by decide) (hcd : (x == ("__classdict__" : Str)) = false := by decide) : DE C X Wx (.Name x pos) (xVar i) := by
  refine PE.imp (pe_var hN hv hd hcd) fun σ H Q h => ?_
  obtain ⟨W, env, s, e, q⟩ := h
  unfold xVar at q
  split at q
  · rename_i d hd
    obtain ⟨v, h1, h2⟩ := e.sv i d hd
    exact ⟨v, h1, q.here e h2⟩
  · exact q.elim
theorem tD_c {d : D} {v : V} (r : ∀ W H, RD C X.K W H d v) : ∀ σ H Q, tD C X.K Wx (xC d) σ H Q → tC v σ H Q := fun σ H Q h => by
  obtain ⟨W, env, s, e, q⟩ := h
  exact Res.here (a := d) (b := v) q e (r W H)
theorem de_int {i : Int} {j : Nat} : DE C X Wx (.Constant (.int i) j pos) (xC (.int i)) := PE.imp pe_int (tD_c fun _ _ => rfl)
theorem de_bl {b : Bool} {j : Nat} : DE C X Wx (.Constant (.bool b) j pos) (xC (.bl b)) := PE.imp pe_bl (tD_c fun _ _ => rfl)
theorem de_non {j : Nat} : DE C X Wx (.Constant .none j pos) (xC .non) := PE.imp pe_non (tD_c fun _ _ => rfl)
theorem de_str {x : Str} {j : Nat} : DE C X Wx (.Constant (.str x) j pos) (xC (.str x)) := PE.imp pe_str (tD_c fun _ _ => rfl)
/-- a constant of the module, a class, a def, as a value -/
theorem de_glob {x : Str} {v : V} {u : Value} {d : D} (hg : Gl X x) (hm : X.mg x = some u) (r : RelV v u) (hr : ∀ W H, RD C X.K W H d v) (hd : (x == ("__debug__" : Str)) = false := by decide) : DE C X Wx (.Name x pos) (xC d) :=
  PE.imp (pe_glob hg hm r hd) (tD_c hr)

/-- an operation by its data -/
def r2 (C : Cfg) (K : PySem.W.Frag) (g : S → D → D → Option D) : R2 := fun x y H Q => ∃ W s d e, StS C K W H s ∧ RD C K W H d x ∧ RD C K W H e y ∧ match g s d e with
  | some z => ∀ W' H' v, Le W H s W' H' s → StS C K W' H' s → RD C K W' H' z v → Q v H'
  | none => False
def r1 (C : Cfg) (K : PySem.W.Frag) (g : S → D → Option D) : V → Hp → VK → Prop := fun x H Q => ∃ W s d, StS C K W H s ∧ RD C K W H d x ∧ match g s d with
  | some z => ∀ W' H' v, Le W H s W' H' s → StS C K W' H' s → RD C K W' H' z v → Q v H'
  | none => False
theorem tD_bin {g : S → D → D → Option D} {K : PySem.W.Frag} : ∀ σ H Q, tD C K Wx (xBin g fa fb) σ H Q → tOp (r2 C K g) (tD C K Wx fa) (tD C K Wx fb) σ H Q := fun σ H Q h => by
  obtain ⟨W, env, s, e, q⟩ := h
  refine ⟨W, env, s, e, Res.step q fun W1 H1 s1 d x l1 e1 h1 q1 => ⟨W1, env, s1, e1, Res.step q1 fun W2 H2 s2 d2 y l2 e2 h2 q2 => ⟨W2, s2, d, d2, e2.st, h1.mono l2 e1.st, h2, ?_⟩⟩⟩
  revert q2
  unfold Out.of
  cases g s2 d d2 with
  | none => exact fun q => q
  | some z => exact fun q W3 H3 v l3 t3 r3 => q W3 H3 v l3 (e2.later l3 t3) r3
theorem de_bin {op : Operator} {g : S → D → D → Option D} (ho : OpR X (binaryOp op) (r2 C X.K g)) (ha : DE C X Wx a fa) (hb : DE C X Wx b fb) : DE C X Wx (.BinOp a op b pos) (xBin g fa fb) := PE.imp (pe_op ho ha hb) tD_bin
theorem tD_un {g : S → D → Option D} {K : PySem.W.Frag} : ∀ σ H Q, tD C K Wx (xUn g fa) σ H Q → tUn (r1 C K g) (tD C K Wx fa) σ H Q := fun σ H Q h => by
  obtain ⟨W, env, s, e, q⟩ := h
  refine ⟨W, env, s, e, Res.step q fun W1 H1 s1 d x l1 e1 h1 q1 => ⟨W1, s1, d, e1.st, h1, ?_⟩⟩
  revert q1
  unfold Out.of
  cases g s1 d with
  | none => exact fun q => q
  | some z => exact fun q W3 H3 v l3 t3 r3 => q W3 H3 v l3 (e1.later l3 t3) r3
theorem de_un {op : UnaryOp} {g : S → D → Option D} (ho : UnR X (unaryOp op) (r1 C X.K g)) (ha : DE C X Wx a fa) : DE C X Wx (.UnaryOp op a pos) (xUn g fa) := PE.imp (pe_un ho ha) tD_un
theorem de_cmp {op : CmpOp} {g : S → D → D → Option D} (ho : OpR X (compareOp op) (r2 C X.K g)) (ha : DE C X Wx a fa) (hb : DE C X Wx b fb) (hm : behindInMarks op b = false) : DE C X Wx (.Compare a [op] [b] pos) (xBin g fa fb) :=
  PE.imp (pe_cmpR ho ha hb hm) tD_bin
/-- a value that is a bool, as a test -/
theorem tT_val {K : PySem.W.Frag} : ∀ σ H Q, tT C K Wx (tVal fa) σ H Q → tTest (tD C K Wx fa) σ H Q := fun σ H Q h => by
  obtain ⟨W, env, s, e, q⟩ := h
  refine ⟨W, env, s, e, Res.step q fun W1 H1 s1 d x l1 e1 h1 q1 => ?_⟩
  have h2 := h1.strip
  revert q1
  split
  · rename_i b hb
    intro q1
    rw [hb] at h2
    exact ⟨b, h2, q1.here e1 rfl⟩
  · exact fun q => q.elim
theorem dt_cmp {op : CmpOp} {g : S → D → D → Option D} (ho : OpR X (compareOp op) (r2 C X.K g)) (ha : DE C X Wx a fa) (hb : DE C X Wx b fb) (hm : behindInMarks op b = false) : DT C X Wx (.Compare a [op] [b] pos) (tVal (xBin g fa fb)) :=
  PT.imp (pt_cmpR ho ha hb hm) fun σ H Q h => by
    obtain ⟨x, h1⟩ := tT_val σ H Q h
    exact tD_bin σ H _ ⟨x, h1⟩
/-- a op b op c -/
def xChain (g g' : S → D → D → Option D) (a b c : Ex) : Ex := fun e s => (a e s).bind fun x s => (b e s).bind fun y s => (Out.of (g s x y) s).bind fun z s => match z.strip with
  | .bl true => (c e s).bind fun w s => Out.of (g' s y w) s
  | .bl false => .ok (.bl false) s
  | _ => .stuck
theorem tD_chain {g g' : S → D → D → Option D} {K : PySem.W.Frag} : ∀ σ H Q, tD C K Wx (xChain g g' fa fb fc) σ H Q → tChain (r2 C K g) (r2 C K g') (tD C K Wx fa) (tD C K Wx fb) (tD C K Wx fc) σ H Q := fun σ H Q h => by
  obtain ⟨W, env, s, e, q⟩ := h
  refine ⟨W, env, s, e, Res.step q fun W1 H1 s1 d x l1 e1 h1 q1 => ⟨W1, env, s1, e1, Res.step q1 fun W2 H2 s2 d2 y l2 e2 h2 q2 => ⟨W2, s2, d, d2, e2.st, h1.mono l2 e1.st, h2, ?_⟩⟩⟩
  revert q2
  unfold Out.of
  cases hg : g s2 d d2 with
  | none => exact fun q => q
  | some z =>
    intro q W3 H3 v l3 t3 r3
    have e3 := e2.later l3 t3
    have r4 := r3.strip
    have q3 := Res.later q l3
    revert q3
    show Res _ _ _ _ _ _ _ _ _ (match z.strip with
      | .bl true => _
      | .bl false => _
      | _ => _) _ → _
    split
    · rename_i hz
      rw [hz] at r4
      intro q3
      refine ⟨true, r4, ?_⟩
      rw [if_pos rfl]
      refine ⟨W3, env, s2, e3, Res.step q3 fun W4 H4 s4 d4 w l4 e4 h4 q4 => ⟨W4, s4, d2, d4, e4.st, (h2.mono l3 e2.st).mono l4 e3.st, h4, ?_⟩⟩
      revert q4
      cases g' s4 d2 d4 with
      | none => exact fun q => q
      | some z' => exact fun q W5 H5 v l5 t5 r5 => q W5 H5 v l5 (e4.later l5 t5) r5
    · rename_i hz
      rw [hz] at r4
      intro q3
      refine ⟨false, r4, ?_⟩
      rw [if_neg Bool.false_ne_true]
      exact Res.here (b := V.bl false) q3 e3 rfl
    · exact fun q => q.elim
theorem de_chain {op op' : CmpOp} {g g' : S → D → D → Option D} (ho : OpR X (compareOp op) (r2 C X.K g)) (ho' : OpR X (compareOp op') (r2 C X.K g')) (ha : DE C X Wx a fa) (hb : DE C X Wx b fb) (hc : DE C X Wx c fc)
    (hm : lastMarks [op, op'] [b, c] = false := by with_unfolding_all rfl) : DE C X Wx (.Compare a [op, op'] [b, c] pos) (xChain g g' fa fb fc) := PE.imp (pe_chain ho ho' ha hb hc hm) tD_chain
theorem dt_chain {op op' : CmpOp} {g g' : S → D → D → Option D} (ho : OpR X (compareOp op) (r2 C X.K g)) (ho' : OpR X (compareOp op') (r2 C X.K g')) (ha : DE C X Wx a fa) (hb : DE C X Wx b fb) (hc : DE C X Wx c fc)
    (hm : lastMarks [op, op'] [b, c] = false := by with_unfolding_all rfl) : DT C X Wx (.Compare a [op, op'] [b, c] pos) (tVal (xChain g g' fa fb fc)) :=
  PT.imp (pt_chain ho ho' ha hb hc hm) fun σ H Q h => by
    obtain ⟨x, h1⟩ := tT_val σ H Q h
    exact tD_chain σ H _ ⟨x, h1⟩

/-! ### tests -/
theorem dt_val (h : DE C X Wx a fa) (he : ∀ whole, isTrue a X.env whole = (do let v ← whole; standAt a.pos; holding [v] (truthy v)) := by intro _; rfl) : DT C X Wx a (tVal fa) :=
  PT.imp (pt_val h he) tT_val
/-- truth of any value -/
def D.tru : D → Option Bool
  | .non => some false
  | .bl b => some b
  | .int i => some (i != 0)
  | .str x => if x.length ≤ sizeLine then some ((x.length : Int) != 0) else none
  | .lst xs => some (!xs.isEmpty)
  | .tup xs => some (!xs.isEmpty)
  | _ => none
/-- what an object that changes holds now -/
def view (s : S) (d : D) : D := match d.strip with
  | .ref i => (match s.mo[i]? with
    | some (.lst xs) => .lst xs
    | some (.dK ks vs) => .dct ks vs
    | some (.dT ks vs) => .dct ks vs
    | some (.ins c vs) => .inst c vs
    | _ => .ref i)
  | d => d
/-- a value as it is seen -/
def See (C : Cfg) (K : PySem.W.Frag) (W : Wd) (H : Hp) : D → V → Prop
  | .lst xs, v => ∃ a vs, v = .ref a ∧ H a = some (.lst vs) ∧ RDs C K W H xs vs
  | .tup xs, v => ∃ a vs, v = .ref a ∧ H a = some (.tup vs) ∧ RDs C K W H xs vs
  | .dct ks vs, v => ∃ a ws, v = .ref a ∧ DctL H a ks ws ∧ RDs C K W H vs ws
  | .inst c vs, v => ∃ a dx ws, v = .ref a ∧ H a = some (.ins (C.ca c) dx ((C.cf c).zip ws)) ∧ ws.length ≤ (C.cf c).length ∧ RDs C K W H vs ws
  | d, v => RD C K W H d v
theorem see_strip {C : Cfg} {K : PySem.W.Frag} {W : Wd} {H : Hp} : ∀ {d : D} {v : V}, RD C K W H d v → d.strip = d → See C K W H d v
  | .non, _, q, _ => q
  | .bl _, _, q, _ => q
  | .int _, _, q, _ => q
  | .str _, _, q, _ => q
  | .lst xs, v, q, _ => by
    obtain ⟨a, vs, e, _, l, r⟩ := q
    exact ⟨a, vs, e, l, r⟩
  | .tup xs, v, q, _ => by
    obtain ⟨a, vs, e, _, l, r⟩ := q
    exact ⟨a, vs, e, l, r⟩
  | .dct _ _, _, q, _ => by
    obtain ⟨a, ws, e, _, l, r⟩ := q
    exact ⟨a, ws, e, l.l, r⟩
  | .ref _, _, q, _ => q
  | .inst _ _, _, q, _ => by
    obtain ⟨a, dx, ws, e, _, l, n, r⟩ := q
    exact ⟨a, dx, ws, e, l, Nat.le_of_eq n.symm, r⟩
  | .fn _, _, q, _ => q
  | .tag i d, v, q, e => q
  | .exn _ _, _, q, _ => q
  | .lam _ _, _, q, _ => q
  | .scr _, _, q, _ => q
  | .kl _, _, q, _ => q
theorem strip_strip : ∀ d : D, d.strip.strip = d.strip
  | .tag i d => strip_strip d
  | .non => rfl
  | .bl _ => rfl
  | .int _ => rfl
  | .str _ => rfl
  | .lst _ => rfl
  | .tup _ => rfl
  | .dct _ _ => rfl
  | .ref _ => rfl
  | .inst _ _ => rfl
  | .fn _ => rfl
  | .exn _ _ => rfl
  | .lam _ _ => rfl
  | .scr _ => rfl
  | .kl _ => rfl
theorem see_of {C : Cfg} {K : PySem.W.Frag} {W : Wd} {H : Hp} {s : S} (t : StS C K W H s) {d : D} {v : V} (r : RD C K W H d v) : See C K W H (view s d) v := by
  have r2 := r.strip
  have e := strip_strip d
  unfold view
  generalize d.strip = d0 at r2 e
  split
  · rename_i i
    obtain ⟨a, h1, h2⟩ := id r2
    split
    · rename_i xs hx
      obtain ⟨vs, g1, g2, _⟩ := t.mo i _ a hx h1
      exact ⟨a, vs, h2, g1, g2⟩
    · rename_i ks vs hx
      obtain ⟨kvs, g1, g2, g3, _⟩ := t.mo i _ a hx h1
      exact ⟨a, _, h2, .inl ⟨kvs, g1, g2, rfl⟩, g3⟩
    · rename_i ks vs hx
      obtain ⟨kvs, g1, g2, g3, _⟩ := t.mo i _ a hx h1
      exact ⟨a, _, h2, .inr ⟨kvs, g1, g2, rfl⟩, g3⟩
    · rename_i c vs hx
      obtain ⟨dx, ws, g1, g2, g3, _⟩ := t.mo i _ a hx h1
      exact ⟨a, dx, ws, h2, g1, g2, g3⟩
    · exact r2
  · exact see_strip r2 e
theorem RDs.isEmpty {C : Cfg} {K : PySem.W.Frag} {W : Wd} {H : Hp} : ∀ {ds : List D} {vs : List V}, RDs C K W H ds vs → vs.isEmpty = ds.isEmpty
  | [], vs, q => by
    have e : vs = [] := q
    rw [e]
    rfl
  | d :: ds, vs, q => by
    obtain ⟨v, r, e, _, _⟩ := q
    rw [e]
    rfl
/-- the truth of any value, as a test -/
def tTru (a : Ex) : Tx := fun e s => (a e s).bind fun x s => Out.of (view s x).tru s
theorem tru_of {K : PySem.W.Frag} {W : Wd} {H : Hp} {d : D} {v : V} {k : Bool} (r : See C K W H d v) (h : d.tru = some k) : TruV K v H k := by
  cases d with
  | non =>
    have e : v = .non := r
    subst e
    exact (Option.some.inj h).symm
  | bl b =>
    have e : v = .bl b := r
    subst e
    exact (Option.some.inj h).symm
  | int i =>
    have e : v = .int i := r
    subst e
    exact (Option.some.inj h).symm
  | str x =>
    have e : v = .str x := r
    subst e
    have h' : (if x.length ≤ sizeLine then some ((x.length : Int) != 0) else none) = some k := h
    split at h'
    · rename_i hx
      exact ⟨hx, (Option.some.inj h').symm⟩
    · cases h'
  | lst xs =>
    obtain ⟨a, vs, e, l, q⟩ := r
    subst e
    refine .inl ⟨vs, SqL.of l, ?_⟩
    rw [q.isEmpty]
    exact (Option.some.inj h).symm
  | tup xs =>
    obtain ⟨a, vs, e, l, q⟩ := r
    subst e
    refine .inr (.inl ⟨vs, SqT.of l, ?_⟩)
    rw [q.isEmpty]
    exact (Option.some.inj h).symm
  | _ => cases h
theorem dt_tru (h : DE C X Wx a fa) (he : ∀ whole, isTrue a X.env whole = (do let v ← whole; standAt a.pos; holding [v] (truthy v)) := by intro _; rfl) : DT C X Wx a (tTru fa) :=
  PT.imp (pt_truth h he) fun σ H Q h => by
    obtain ⟨W, env, s, e, q⟩ := h
    refine ⟨W, env, s, e, Res.step q fun W1 H1 s1 d x l1 e1 h1 q1 => ?_⟩
    revert q1
    unfold Out.of
    cases hk : (view s1 d).tru with
    | none => exact fun q => q.elim
    | some k => exact fun q => ⟨k, tru_of (see_of e1.st h1) hk, q.here e1 rfl⟩
theorem tT_not {K : PySem.W.Frag} : ∀ σ H Q, tT C K Wx (tNot ft) σ H Q → L2.tNot (tT C K Wx ft) σ H Q := fun σ H Q h => by
  obtain ⟨W, env, s, e, q⟩ := h
  refine ⟨W, env, s, e, Res.step q fun W1 H1 s1 d x l1 e1 h1 q1 => ?_⟩
  have h2 : d = x := h1
  subst h2
  exact q1.here e1 rfl
theorem dt_not (h : DT C X Wx a ft) : DT C X Wx (.UnaryOp .Not a pos) (tNot ft) := PT.imp (pt_not h) tT_not
theorem dw_and1 (ha : DT C X Wx a ft) : DW C X Wx (.BoolOp .And [a] pos) ft := pw_and1 ha
theorem dw_or1 (ha : DT C X Wx a ft) : DW C X Wx (.BoolOp .Or [a] pos) ft := pw_or1 ha
theorem dw_and (ha : DT C X Wx a ft) (hb : DW C X Wx (.BoolOp .And (b :: rest) pos) fu) : DW C X Wx (.BoolOp .And (a :: b :: rest) pos) (tAnd ft fu) :=
  PW.imp (pw_and ha hb) fun σ H Q h => by
    obtain ⟨W, env, s, e, q⟩ := h
    refine ⟨W, env, s, e, Res.step q fun W1 H1 s1 d x l1 e1 h1 q1 => ?_⟩
    have h2 : d = x := h1
    subst h2
    cases d with
    | true => exact ⟨W1, env, s1, e1, q1⟩
    | false => exact Res.here (b := false) q1 e1 rfl
theorem dw_or (ha : DT C X Wx a ft) (hb : DW C X Wx (.BoolOp .Or (b :: rest) pos) fu) : DW C X Wx (.BoolOp .Or (a :: b :: rest) pos) (tOr ft fu) :=
  PW.imp (pw_or ha hb) fun σ H Q h => by
    obtain ⟨W, env, s, e, q⟩ := h
    refine ⟨W, env, s, e, Res.step q fun W1 H1 s1 d x l1 e1 h1 q1 => ?_⟩
    have h2 : d = x := h1
    subst h2
    cases d with
    | true => exact Res.here (b := true) q1 e1 rfl
    | false => exact ⟨W1, env, s1, e1, q1⟩
/-! as values -/
theorem de_one {op : PySem.BoolOp} (h : DE C X Wx a fa) : DE C X Wx (.BoolOp op [a] pos) fa := pe_one h
theorem de_and (ha : DE C X Wx a fa) (hb : DE C X Wx (.BoolOp .And (b :: rest) pos) fb) : DE C X Wx (.BoolOp .And (a :: b :: rest) pos) (xAnd fa fb) :=
  PE.imp (pe_and ha hb) fun σ H Q h => by
    obtain ⟨W, env, s, e, q⟩ := h
    refine ⟨W, env, s, e, Res.step q fun W1 H1 s1 d x l1 e1 h1 q1 => ?_⟩
    have h2 := h1.strip
    revert q1
    split
    · rename_i hz
      rw [hz] at h2
      exact fun q1 => ⟨true, h2, ⟨W1, env, s1, e1, q1⟩⟩
    · rename_i hz
      rw [hz] at h2
      exact fun q1 => ⟨false, h2, Res.here (b := V.bl false) q1 e1 rfl⟩
    · exact fun q => q.elim
theorem de_or (ha : DE C X Wx a fa) (hb : DE C X Wx (.BoolOp .Or (b :: rest) pos) fb) : DE C X Wx (.BoolOp .Or (a :: b :: rest) pos) (xOr fa fb) :=
  PE.imp (pe_or ha hb) fun σ H Q h => by
    obtain ⟨W, env, s, e, q⟩ := h
    refine ⟨W, env, s, e, Res.step q fun W1 H1 s1 d x l1 e1 h1 q1 => ?_⟩
    have h2 := h1.strip
    revert q1
    split
    · rename_i hz
      rw [hz] at h2
      exact fun q1 => ⟨true, h2, Res.here (b := V.bl true) q1 e1 rfl⟩
    · rename_i hz
      rw [hz] at h2
      exact fun q1 => ⟨false, h2, ⟨W1, env, s1, e1, q1⟩⟩
    · exact fun q => q.elim
theorem de_not (ha : DE C X Wx a fa) : DE C X Wx (.UnaryOp .Not a pos) (xNot fa) :=
  PE.imp (pe_not ha) fun σ H Q h => by
    obtain ⟨W, env, s, e, q⟩ := h
    refine ⟨W, env, s, e, Res.step q fun W1 H1 s1 d x l1 e1 h1 q1 => ?_⟩
    have h2 := h1.strip
    revert q1
    split
    · rename_i b hz
      rw [hz] at h2
      exact fun q1 => ⟨b, h2, Res.here (b := V.bl !b) q1 e1 rfl⟩
    · exact fun q => q.elim
theorem de_if {t : Expr} (ht : DT C X Wx t ft) (ha : DE C X Wx a fa) (hb : DE C X Wx b fb) : DE C X Wx (.IfExp t a b pos) (xIf ft fa fb) :=
  PE.imp (pe_ifExp ht ha hb) fun σ H Q h => by
    obtain ⟨W, env, s, e, q⟩ := h
    refine ⟨W, env, s, e, Res.step q fun W1 H1 s1 d x l1 e1 h1 q1 => ?_⟩
    have h2 : d = x := h1
    subst h2
    cases d with
    | true => exact ⟨W1, env, s1, e1, q1⟩
    | false => exact ⟨W1, env, s1, e1, q1⟩
end

/-! ### new objects -/
def Wd.add (W : Wd) (p : Addr) : Wd := { W with F := fun a => W.F a ∨ a = p }
section
variable {C : Cfg} {K : PySem.W.Frag} {W W' : Wd} {H H' : Hp} {s s' : S}
/-- an object is laid that nobody writes any more -/
theorem Le.laid {p : Addr} {o : HO} (t : StS C K W H s) (hp : H p = none) : Le W H s (W.add p) (upd H p o) s :=
  ⟨fun _ h => .inl h, fun _ _ h => h, fun _ _ h => h, fun a u h _ _ => by rw [upd_ne (ne_of_none h hp)]; exact h, fun a h => by
    by_cases e : a = p
    · rw [e, upd_same]
      exact fun z => nomatch z
    · rw [upd_ne e]
      exact h, fun _ h => h, (fun i a hi h => by
      have e : W.al[i]? = none := List.getElem?_eq_none hi
      have h' : W.al[i]? = some a := h
      rw [e] at h'
      cases h'), fun a h => Or.imp id (fun z => .inl (by rw [z]; exact hp)) h⟩
theorem mok_later {a : Addr} {o : MO} (l : Le W H s W' H' s') (t : StS C K W H s) (e : ∀ u, H a = some u → H' a = some u) (m : MOk C K W H a o) : MOk C K W' H' a o := by
  cases o with
  | lst xs =>
    obtain ⟨vs, h1, h2, h3⟩ := m
    exact ⟨vs, e _ h1, h2.mono l t, h3⟩
  | dK ks vs =>
    obtain ⟨kvs, h1, h2, h3, h4⟩ := m
    exact ⟨kvs, e _ h1, h2, h3.mono l t, h4⟩
  | dT ks vs =>
    obtain ⟨kvs, h1, h2, h3, h4⟩ := m
    exact ⟨kvs, e _ h1, h2, h3.mono l t, h4⟩
  | ins c vs =>
    obtain ⟨dx, ws, h1, h2, h3, h4⟩ := m
    exact ⟨dx, ws, e _ h1, h2, h3.mono l t, h4⟩
  | dead => exact True.intro
theorem StS.laid {p : Addr} {o : HO} (t : StS C K W H s) (hp : H p = none) (n : ntb o) : StS C K (W.add p) (upd H p o) s := by
  have l : Le W H s (W.add p) (upd H p o) s := Le.laid t hp
  have nal : ∀ a, a ∈ W.al → a ≠ p := fun a ha z => t.alh a ha (by rw [z]; exact hp)
  refine ⟨t.len, t.tln, t.nod, fun i u a h1 h2 => ?_, fun a h => ?_, fun a ha => l.dom a (t.alh a ha), tabs_upd t.tb (.none hp) fun _ h => .inl h⟩
  · have h2' : W.al[i]? = some a := h2
    refine mok_later l t (fun v e => ?_) (t.mo i u a h1 h2')
    rw [upd_ne (nal a (List.mem_of_getElem? h2'))]
    exact e
  · rcases h with h | h
    · obtain ⟨g1, g2, g3⟩ := t.fz a h
      have ne : a ≠ p := fun z => g1 (by rw [z]; exact hp)
      rw [upd_ne ne]
      exact ⟨g1, g2, g3⟩
    · subst h
      refine ⟨fun z => ?_, fun u e => ?_, fun i hi => absurd rfl (nal _ (List.mem_of_getElem? (show W.al[i]? = some _ from hi)))⟩
      · rw [upd_same] at z
        cases z
      · rw [upd_same] at e
        cases e
        exact n
end
section
variable {C : Cfg} {X : Cx} {Wx : WX} {e : Expr} {es : List Expr} {fe : Ex} {fs : Ax} {pos : Pos}
theorem da_nil : DA C X Wx [] aNil := PA.imp pa_nil fun σ H Q h => by
  obtain ⟨W, env, s, e, q⟩ := h
  exact Res.here (b := ([] : List V)) q e rfl
theorem da_cons (ha : DE C X Wx e fe) (hr : DA C X Wx es fs) (hs : starEach (e :: es) X.env = (false, eval e X.env) :: starEach es X.env := by rfl) : DA C X Wx (e :: es) (aCons fe fs) := PA.imp (pa_cons ha hr hs) fun σ H Q h => by
  obtain ⟨W, env, s, e, q⟩ := h
  refine ⟨W, env, s, e, Res.step q fun W1 H1 s1 d x l1 e1 h1 q1 => ⟨W1, env, s1, e1, Res.step q1 fun W2 H2 s2 ds xs l2 e2 h2 q2 => ?_⟩⟩
  exact Res.here (b := x :: xs) q2 e2 ⟨x, xs, rfl, h1.mono l2 e1.st, h2⟩
theorem de_lst (h : DA C X Wx es fs) : DE C X Wx (.List es pos) (xLst fs) := PE.imp (pe_lst h) fun σ H Q h => by
  obtain ⟨W, env, s, e, q⟩ := h
  refine ⟨W, env, s, e, Res.step q fun W1 H1 s1 ds xs l1 e1 h1 q1 => ?_⟩
  revert q1
  split
  · rename_i hl
    intro q1
    refine ⟨by rw [← h1.length]; exact hl, fun p hp => ?_⟩
    have l2 := Le.laid (o := .lst xs) e1.st hp
    have t2 := e1.st.laid hp (o := .lst xs) (fun _ z => nomatch z)
    exact q1 _ _ (.ref p) l2 (e1.later l2 t2) ⟨p, xs, rfl, .inr rfl, upd_same, h1.mono l2 e1.st⟩
  · exact fun q => q.elim
theorem de_tup {k : Nat} (h : DA C X Wx es fs) : DE C X Wx (.Tuple es k pos) (xTup fs) := PE.imp (pe_tup h) fun σ H Q h => by
  obtain ⟨W, env, s, e, q⟩ := h
  refine ⟨W, env, s, e, Res.step q fun W1 H1 s1 ds xs l1 e1 h1 q1 => ?_⟩
  revert q1
  split
  · rename_i hl
    intro q1
    refine ⟨by rw [← h1.length]; exact hl, fun p hp => ?_⟩
    have l2 := Le.laid (o := .tup xs) e1.st hp
    have t2 := e1.st.laid hp (o := .tup xs) (fun _ z => nomatch z)
    exact q1 _ _ (.ref p) l2 (e1.later l2 t2) ⟨p, xs, rfl, .inr rfl, upd_same, h1.mono l2 e1.st⟩
  · exact fun q => q.elim
end
end DV
end
section
set_option Elab.async false
set_option linter.all false
set_option maxRecDepth 100000
/-! DC: statements over data, defs and their calls. -/
namespace DV
open PySem PySem.Spec PyProof.Rows L2

inductive Fl where
  | next (e : Env) (s : S) | ret (d : D) (s : S) | brk (e : Env) (s : S) | cont (e : Env) (s : S)
  | exc (c : Nat) (vs : List D) (e : Env) (s : S) | stuck
abbrev Sx := Env → S → Fl
def ResS (C : Cfg) (K : PySem.W.Frag) (Wx : WX) (D : Ends) (W : Wd) (H : Hp) (s : S) : Fl → Prop
  | .next env' s' => ∀ W' σ' H', Le W H s W' H' s' → StE C K W' H' σ' env' s' → D.nx σ' H'
  | .ret d s' => ∀ W' v H', Le W H s W' H' s' → StS C K W' H' s' → RD C K W' H' d v → D.rt v H'
  | .brk env' s' => ∀ W' σ' H', Le W H s W' H' s' → StE C K W' H' σ' env' s' → D.bk σ' H'
  | .cont env' s' => ∀ W' σ' H', Le W H s W' H' s' → StE C K W' H' σ' env' s' → D.ct σ' H'
  | .exc c vs env' s' => ∀ W' σ' H' dd ws, Le W H s W' H' s' → StE C K W' H' σ' env' s' → W'.F dd → H' dd = some (.xd ((C.cf c).zip ws)) → (C.cf c).length = ws.length → RDs C K W' H' vs ws → Wx (.ref (C.ca c)) (some dd) σ' H'
  | .stuck => False
theorem ResS.later {C : Cfg} {K : PySem.W.Frag} {Wx : WX} {D : Ends} {W W' : Wd} {H H' : Hp} {s s' : S} {o : Fl} (h : ResS C K Wx D W H s o) (l : Le W H s W' H' s') : ResS C K Wx D W' H' s' o := by
  cases o with
  | next _ _ => exact fun W2 σ2 H2 q => h W2 σ2 H2 (l.trans q)
  | ret _ _ => exact fun W2 v H2 q => h W2 v H2 (l.trans q)
  | brk _ _ => exact fun W2 σ2 H2 q => h W2 σ2 H2 (l.trans q)
  | cont _ _ => exact fun W2 σ2 H2 q => h W2 σ2 H2 (l.trans q)
  | exc _ _ _ _ => exact fun W2 σ2 H2 dd ws q => h W2 σ2 H2 dd ws (l.trans q)
  | stuck => exact h
def tS (C : Cfg) (K : PySem.W.Frag) (Wx : WX) (f : Sx) : TS := fun D σ H => ∃ W env s, StE C K W H σ env s ∧ ResS C K Wx D W H s (f env s)
def DS (C : Cfg) (X : Cx) (Wx : WX) (st : Stmt) (f : Sx) : Prop := PS X st (tS C X.K Wx f)
def DSs (C : Cfg) (X : Cx) (Wx : WX) (st : List Stmt) (f : Sx) : Prop := PSs X st (tS C X.K Wx f)
theorem PS.imp {X : Cx} {e : Stmt} {t t' : TS} (h : PS X e t) (f : ∀ D σ H, t' D σ H → t D σ H) : PS X e t' := ⟨fun pins s σ H D I q => h.run pins s σ H D I (f _ _ _ q)⟩
theorem PSs.imp {X : Cx} {e : List Stmt} {t t' : TS} (h : PSs X e t) (f : ∀ D σ H, t' D σ H → t D σ H) : PSs X e t' := ⟨fun pins s σ H D I q => h.run pins s σ H D I (f _ _ _ q)⟩
theorem PG.imp {X : Cx} {e : Expr} {t t' : TG} (h : PG X e t) (f : ∀ v σ H Q, t' v σ H Q → t v σ H Q) : PG X e t' := ⟨fun pins s σ H v u Q I r q => h.run pins s σ H v u Q I r (f _ _ _ _ q)⟩
theorem PGs.imp {X : Cx} {e : List Expr} {t t' : TGs} (h : PGs X e t) (f : ∀ v σ H Q, t' v σ H Q → t v σ H Q) : PGs X e t' := ⟨fun pins s σ H v u Q I r q => h.run pins s σ H v u Q I r (f _ _ _ _ q)⟩
theorem PG.or {X : Cx} {e : Expr} {t t' : TG} (h : PG X e t) (h' : PG X e t') : PG X e (fun v σ H Q => t v σ H Q ∨ t' v σ H Q) := ⟨fun pins s σ H v u Q I r q => by
  rcases q with q | q
  · exact h.run pins s σ H v u Q I r q
  · exact h'.run pins s σ H v u Q I r q⟩

/-! ### combinators -/
def sNext : Sx := fun e s => .next e s
def sSeq (f g : Sx) : Sx := fun e s => match f e s with
  | .next e' s' => g e' s'
  | r => r
/-- an expression's result ahead of a statement's -/
def Out.fl {α : Type} (o : Out α) (e : Env) (k : α → S → Fl) : Fl := match o with
  | .ok a s => k a s
  | .exc c vs s => .exc c vs e s
  | .stuck => .stuck
def sExpr (a : Ex) : Sx := fun e s => (a e s).fl e fun _ s => .next e s
def sRet (a : Ex) : Sx := fun e s => (a e s).fl e fun d s => .ret d s
def sRetN : Sx := fun _ s => .ret .non s
def sIf (t : Tx) (f g : Sx) : Sx := fun e s => (t e s).fl e fun b s => if b = true then f e s else g e s
def sBrk : Sx := fun e s => .brk e s
def sCont : Sx := fun e s => .cont e s
abbrev Gx := D → Env → S → Out Env
def sAsg (a : Ex) (g : Gx) : Sx := fun e s => (a e s).fl e fun d s => match g d e s with
  | .ok e' s' => .next e' s'
  | _ => .stuck
def gVar (i : Nat) : Gx := fun d e s => .ok (e.set i (some d)) s
def gsNil : List D → Env → S → Out Env := fun ds e s => match ds with
  | [] => .ok e s
  | _ => .stuck
def gsCons (g : Gx) (r : List D → Env → S → Out Env) : List D → Env → S → Out Env := fun ds e s => match ds with
  | d :: ds => (g d e s).bind fun e' s' => r ds e' s'
  | [] => .stuck
def gUnp (n : Nat) (r : List D → Env → S → Out Env) : Gx := fun d e s => match view s d with
  | .tup xs => if xs.length = n then r xs e s else .stuck
  | .lst xs => if xs.length = n then r xs e s else .stuck
  | _ => .stuck
def sAug (i : Nat) (g : S → D → D → Option D) (a : Ex) : Sx := fun e s => match e[i]? with
  | some (some x) => (a e s).fl e fun y s => match g s x y with
    | some z => .next (e.set i (some z)) s
    | none => .stuck
  | _ => .stuck

section
variable {C : Cfg} {K : PySem.W.Frag} {Wx : WX} {D : Ends} {σ : L2.St} {env : Env} {W W' : Wd} {H H' : Hp} {s s' : S} {α β : Type} {R : Wd → Hp → α → β → Prop}
/-- an expression's result ahead of a statement's -/
theorem Res.fl {o : Out α} {k : α → S → Fl} {Q1 : β → Hp → Prop} (h : ResS C K Wx D W H s (o.fl env k))
    (f : ∀ W1 H1 s1 a b, Le W H s W1 H1 s1 → StE C K W1 H1 σ env s1 → R W1 H1 a b → ResS C K Wx D W1 H1 s1 (k a s1) → Q1 b H1) : Res C K R Wx σ env W H s o Q1 := by
  cases o with
  | ok a s2 => exact fun W2 H2 b q e r => f W2 H2 s2 a b q e r (ResS.later h q)
  | exc c vs s2 => exact fun W2 H2 dd ws q e => h W2 σ H2 dd ws q e
  | stuck => exact h
theorem ResS.here (h : ResS C K Wx D W H s (.next env s)) (e : StE C K W H σ env s) : D.nx σ H := h W σ H Le.refl e
end
section
variable {C : Cfg} {X : Cx} {Wx : WX} {st : Stmt} {rest : List Stmt} {f g : Sx} {e : Expr} {fe : Ex} {ft : Tx} {pos : Pos}
theorem dss_nil : DSs C X Wx [] sNext := PSs.imp pss_nil fun D σ H h => by
  obtain ⟨W, env, s, e, q⟩ := h
  exact ResS.here q e
theorem tS_seq {K : PySem.W.Frag} : ∀ D σ H, tS C K Wx (sSeq f g) D σ H → tSeq (tS C K Wx f) (tS C K Wx g) D σ H := fun D σ H h => by
  obtain ⟨W, env, s, e, q⟩ := h
  refine ⟨W, env, s, e, ?_⟩
  unfold sSeq at q
  revert q
  cases f env s with
  | next e' s' => exact fun q W' σ' H' l e2 => ⟨W', e', s', e2, ResS.later q l⟩
  | ret _ _ => exact fun q => q
  | brk _ _ => exact fun q => q
  | cont _ _ => exact fun q => q
  | exc _ _ _ _ => exact fun q => q
  | stuck => exact fun q => q
theorem dss_cons (h1 : DS C X Wx st f) (h2 : DSs C X Wx rest g) : DSs C X Wx (st :: rest) (sSeq f g) := PSs.imp (pss_cons h1 h2) tS_seq
theorem dss_one (h1 : DS C X Wx st f) : DSs C X Wx [st] f := pss_one h1
theorem ds_pass : DS C X Wx (.Pass pos) sNext := PS.imp ps_pass fun D σ H h => by
  obtain ⟨W, env, s, e, q⟩ := h
  exact ResS.here q e
theorem ds_brk : DS C X Wx (.Break pos) sBrk := PS.imp ps_break fun D σ H h => by
  obtain ⟨W, env, s, e, q⟩ := h
  exact q W σ H Le.refl e
theorem ds_cont : DS C X Wx (.Continue pos) sCont := PS.imp ps_continue fun D σ H h => by
  obtain ⟨W, env, s, e, q⟩ := h
  exact q W σ H Le.refl e
theorem ds_expr (he : DE C X Wx e fe) (hs : swapsWith e none pos.line X.env = pure false := by rfl) : DS C X Wx (.Expr e pos) (sExpr fe) := PS.imp (ps_expr he hs) fun D σ H h => by
  obtain ⟨W, env, s, e, q⟩ := h
  exact ⟨W, env, s, e, Res.fl q fun W1 H1 s1 d x l1 e1 h1 q1 => ResS.here q1 e1⟩
theorem ds_ret (he : DE C X Wx e fe) : DS C X Wx (.Return (some e) pos) (sRet fe) := PS.imp (ps_ret he) fun D σ H h => by
  obtain ⟨W, env, s, e, q⟩ := h
  exact ⟨W, env, s, e, Res.fl q fun W1 H1 s1 d x l1 e1 h1 q1 => q1 W1 x H1 Le.refl e1.st h1⟩
theorem ds_retN : DS C X Wx (.Return none pos) sRetN := PS.imp ps_retN fun D σ H h => by
  obtain ⟨W, env, s, e, q⟩ := h
  exact q W .non H Le.refl e.st rfl
theorem ds_if {c : Expr} {a b : List Stmt} (hc : DT C X Wx c ft) (ha : DSs C X Wx a f) (hb : DSs C X Wx b g) : DS C X Wx (.If c a b pos) (sIf ft f g) := PS.imp (ps_if hc ha hb) fun D σ H h => by
  obtain ⟨W, env, s, e, q⟩ := h
  refine ⟨W, env, s, e, Res.fl q fun W1 H1 s1 d x l1 e1 h1 q1 => ?_⟩
  have h2 : d = x := h1
  subst h2
  cases d with
  | true => exact ⟨W1, env, s1, e1, q1⟩
  | false => exact ⟨W1, env, s1, e1, q1⟩
end

/-! ### targets -/
def tG (C : Cfg) (K : PySem.W.Frag) (g : Gx) : TG := fun v σ H Q => ∃ W env s d, StE C K W H σ env s ∧ RD C K W H d v ∧ match g d env s with
  | .ok env' s' => ∀ W' σ' H', Le W H s W' H' s' → StE C K W' H' σ' env' s' → Q σ' H'
  | _ => False
def tGs (C : Cfg) (K : PySem.W.Frag) (g : List D → Env → S → Out Env) : TGs := fun vs σ H Q => ∃ W env s ds, StE C K W H σ env s ∧ RDs C K W H ds vs ∧ match g ds env s with
  | .ok env' s' => ∀ W' σ' H', Le W H s W' H' s' → StE C K W' H' σ' env' s' → Q σ' H'
  | _ => False
def DG (C : Cfg) (X : Cx) (tg : Expr) (g : Gx) : Prop := PG X tg (tG C X.K g)
def DGs (C : Cfg) (X : Cx) (tg : List Expr) (g : List D → Env → S → Out Env) : Prop := PGs X tg (tGs C X.K g)
theorem StE.set {C : Cfg} {K : PySem.W.Frag} {σ : L2.St} {env : Env} {W : Wd} {H : Hp} {s : S} (e : StE C K W H σ env s) (i : Nat) {d : D} {v : V} (r : RD C K W H d v) : StE C K W H (σ.set i (some v)) (env.set i (some d)) s := by
  refine ⟨e.st, by rw [List.length_set, List.length_set]; exact e.sl, fun j d' h => ?_⟩
  by_cases hj : i = j
  · subst hj
    by_cases hl : i < env.length
    · rw [List.getElem?_set_self hl] at h
      have e2 : d = d' := Option.some.inj (Option.some.inj h)
      subst e2
      exact ⟨v, List.getElem?_set_self (by rw [e.sl]; exact hl), r⟩
    · rw [List.getElem?_eq_none (by simpa using hl)] at h
      cases h
  · rw [List.getElem?_set_ne hj] at h ⊢
    exact e.sv j d' h
theorem StE.unset {C : Cfg} {K : PySem.W.Frag} {σ : L2.St} {env : Env} {W : Wd} {H : Hp} {s : S} (e : StE C K W H σ env s) (i : Nat) : StE C K W H (σ.set i none) (env.set i none) s := by
  refine ⟨e.st, by rw [List.length_set, List.length_set]; exact e.sl, fun j d' h => ?_⟩
  by_cases hj : i = j
  · subst hj
    by_cases hl : i < env.length
    · rw [List.getElem?_set_self hl] at h
      cases h
    · rw [List.getElem?_eq_none (by simpa using hl)] at h
      cases h
  · rw [List.getElem?_set_ne hj] at h ⊢
    exact e.sv j d' h
section
variable {C : Cfg} {X : Cx} {Wx : WX} {e : Expr} {es : List Expr} {fe : Ex} {g : Gx} {gs : List D → Env → S → Out Env} {pos : Pos}
theorem dg_name {i : Nat} {x : Str} (hN : X.N.Nodup) (hi : X.N[i]? = some x) (hx : Loc X.env.scope x) (hf : X.fn x = true ∨ X.env.scope.names.lookup x = some .local := by first | exact .inl rfl | exact .inr rfl | assumption) : DG C X (.Name x pos) (gVar i) :=
  PG.imp (pg_name hN hi hx hf) fun v σ H Q h => by
    obtain ⟨W, env, s, d, e, r, q⟩ := h
    exact q W _ H Le.refl (e.set i r)
theorem dgs_nil : DGs C X [] gsNil := PGs.imp pgs_nil fun vs σ H Q h => by
  obtain ⟨W, env, s, ds, e, r, q⟩ := h
  cases ds with
  | nil => exact ⟨r, q W σ H Le.refl e⟩
  | cons _ _ => exact q.elim
theorem dgs_cons (h1 : DG C X e g) (h2 : DGs C X es gs) (hs : (assignEach (e :: es) X.env).map (·.2) = assign e X.env :: (assignEach es X.env).map (·.2) := by rfl) : DGs C X (e :: es) (gsCons g gs) := PGs.imp (pgs_cons h1 h2 hs) fun vs σ H Q h => by
  obtain ⟨W, env, s, ds, e, r, q⟩ := h
  cases ds with
  | nil => exact q.elim
  | cons d ds =>
    obtain ⟨v, rs, e1, r1, r2⟩ := r
    refine ⟨v, rs, e1, W, env, s, d, e, r1, ?_⟩
    revert q
    show (match (g d env s).bind fun e' s' => gs ds e' s' with
      | .ok env' s' => _
      | _ => False) → _
    cases g d env s with
    | ok e' s' =>
      intro q W1 σ1 H1 l1 e2
      refine ⟨W1, e', s', ds, e2, r2.mono l1 e.st, ?_⟩
      revert q
      show (match gs ds e' s' with
        | .ok env' s' => _
        | _ => False) → _
      cases gs ds e' s' with
      | ok e3 s3 => exact fun q W2 σ2 H2 l2 e4 => q W2 σ2 H2 (l1.trans l2) e4
      | exc _ _ _ => exact fun q => q
      | stuck => exact fun q => q
    | exc _ _ _ => exact fun q => q.elim
    | stuck => exact fun q => q.elim
theorem dg_unp {n k : Nat} (hc : X.calm = true) (h : DGs C X es gs) (hn : (assignEach es X.env).length = n := by rfl) (hst : (assignEach es X.env).findIdx? (·.1) = none := by rfl) : DG C X (.Tuple es k pos) (gUnp n gs) :=
  PG.imp (PG.or (pg_tup hc h hn hst) (pg_lst hc h hn hst)) fun v σ H Q h => by
    obtain ⟨W, env, s, d, e, r, q⟩ := h
    have z := see_of e.st r
    revert q
    unfold gUnp
    cases hv : view s d with
    | tup xs =>
      rw [hv] at z
      obtain ⟨a, vs, e1, l, rs⟩ := z
      intro q
      by_cases hl : xs.length = n
      · have q2 : (match if xs.length = n then gs xs env s else .stuck with
          | .ok env' s' => ∀ W' σ' H', Le W H s W' H' s' → StE C X.K W' H' σ' env' s' → Q σ' H'
          | _ => False) := q
        rw [if_pos hl] at q2
        exact .inl ⟨a, vs, e1, SqT.of l, by rw [← rs.length]; exact hl, W, env, s, xs, e, rs, q2⟩
      · have q2 : (match if xs.length = n then gs xs env s else .stuck with
          | .ok env' s' => ∀ W' σ' H', Le W H s W' H' s' → StE C X.K W' H' σ' env' s' → Q σ' H'
          | _ => False) := q
        rw [if_neg hl] at q2
        exact q2.elim
    | lst xs =>
      rw [hv] at z
      obtain ⟨a, vs, e1, l, rs⟩ := z
      intro q
      by_cases hl : xs.length = n
      · have q2 : (match if xs.length = n then gs xs env s else .stuck with
          | .ok env' s' => ∀ W' σ' H', Le W H s W' H' s' → StE C X.K W' H' σ' env' s' → Q σ' H'
          | _ => False) := q
        rw [if_pos hl] at q2
        exact .inr ⟨a, vs, e1, SqL.of l, by rw [← rs.length]; exact hl, W, env, s, xs, e, rs, q2⟩
      · have q2 : (match if xs.length = n then gs xs env s else .stuck with
          | .ok env' s' => ∀ W' σ' H', Le W H s W' H' s' → StE C X.K W' H' σ' env' s' → Q σ' H'
          | _ => False) := q
        rw [if_neg hl] at q2
        exact q2.elim
    | _ => exact fun q => q.elim
theorem tS_asg {K : PySem.W.Frag} : ∀ D σ H, tS C K Wx (sAsg fe g) D σ H → tAsg (tD C K Wx fe) (tG C K g) D σ H := fun D σ H h => by
  obtain ⟨W, env, s, e, q⟩ := h
  refine ⟨W, env, s, e, Res.fl q fun W1 H1 s1 d x l1 e1 h1 q1 => ⟨W1, env, s1, d, e1, h1, ?_⟩⟩
  revert q1
  cases g d env s1 with
  | ok e' s' => exact fun q => q
  | exc _ _ _ => exact fun q => q
  | stuck => exact fun q => q
theorem ds_asg {tg : Expr} (he : DE C X Wx e fe) (hg : DG C X tg g) (hs : swapsWithSole [tg] e pos.line X.env = pure false := by rfl) (hw : swappedStores [tg] e X.env = pure none := by rfl)
    (h1 : (assignEach [tg] X.env).map (·.2) = [assign tg X.env] := by rfl) : DS C X Wx (.Assign [tg] e pos) (sAsg fe g) := PS.imp (ps_asg he hg hs hw h1) tS_asg
theorem ds_set {i : Nat} {x : Str} {pos' : Pos} (hN : X.N.Nodup) (hi : X.N[i]? = some x) (hx : Loc X.env.scope x) (he : DE C X Wx e fe) (hs : swapsWith e (some (.Name x pos')) pos.line X.env = pure false := by rfl)
    (hf : X.fn x = true ∨ X.env.scope.names.lookup x = some .local := by first | exact .inl rfl | exact .inr rfl | assumption) : DS C X Wx (.Assign [.Name x pos'] e pos) (sAsg fe (gVar i)) :=
  PS.imp (ps_set hN hi hx he hs hf) fun D σ H h => by
    obtain ⟨W, env, s, e, q⟩ := h
    refine ⟨W, env, s, e, Res.fl q fun W1 H1 s1 d x l1 e1 h1 q1 => ?_⟩
    exact ResS.here q1 (e1.set i h1)
/-- a, b = e1, e2 (two local names) -/
def sPar (i j : Nat) (a : Ax) : Sx := fun e s => (a e s).fl e fun ds s => match ds with
  | [x, y] => .next ((e.set i (some x)).set j (some y)) s
  | _ => .stuck
theorem ds_par {i j : Nat} {x y : Str} {a b : Expr} {fa : Ax} {px py pt : Pos} {kt k2 : Nat} {pt2 : Pos} (hc : X.calm = true) (hN : X.N.Nodup) (hi : X.N[i]? = some x) (hj : X.N[j]? = some y) (hij : i ≠ j)
    (hx : X.env.scope.names.lookup x = some .local) (hy : X.env.scope.names.lookup y = some .local) (ha : DA C X Wx [a, b] fa)
    (hw : swappedStores [.Tuple [.Name x px, .Name y py] kt pt] (.Tuple [a, b] k2 pt2) X.env = pure (some [x, y]))
    (hs : swapsWithSole [.Tuple [.Name x px, .Name y py] kt pt] (.Tuple [a, b] k2 pt2) pos.line X.env = pure false := by rfl) :
    DS C X Wx (.Assign [.Tuple [.Name x px, .Name y py] kt pt] (.Tuple [a, b] k2 pt2) pos) (sPar i j fa) := PS.imp (ps_par hc hN hi hj hij hx hy ha hw hs) fun D σ H h => by
  obtain ⟨W, env, s, e, q⟩ := h
  refine ⟨W, env, s, e, Res.fl q fun W1 H1 s1 ds xs l1 e1 h1 q1 => ?_⟩
  revert q1
  split
  · rename_i d1 d2
    intro q1
    obtain ⟨v1, r1, rfl, g1, v2, r2, rfl, g2, rfl⟩ := h1
    exact ⟨v1, v2, rfl, ResS.here q1 ((e1.set i g1).set j g2)⟩
  · exact fun q => q.elim
theorem ds_aug {i : Nat} {x : Str} {op : Operator} {pos' : Pos} {g : S → D → D → Option D} (hN : X.N.Nodup) (hi : X.N[i]? = some x) (hx : Loc X.env.scope x) (he : DE C X Wx e fe) (ho : PIp X op (r2 C X.K g))
    (hf : X.fn x = true ∨ X.env.scope.names.lookup x = some .local := by first | exact .inl rfl | exact .inr rfl | assumption) : DS C X Wx (.AugAssign (.Name x pos') op e pos) (sAug i g fe) := PS.imp (ps_aug hN hi hx he ho hf) fun D σ H h => by
  obtain ⟨W, env, s, e, q⟩ := h
  unfold sAug at q
  split at q
  · rename_i d hd
    obtain ⟨v, hv, rv⟩ := e.sv i d hd
    refine ⟨v, hv, W, env, s, e, Res.fl q fun W1 H1 s1 d1 x1 l1 e1 h1 q1 => ⟨W1, s1, d, d1, e1.st, rv.mono l1 e.st, h1, ?_⟩⟩
    revert q1
    cases g s1 d d1 with
    | none => exact fun q => q
    | some z => exact fun q W2 H2 v2 l2 t2 r2 => q W2 _ H2 l2 ((e1.later l2 t2).set i r2)
  · exact q.elim
end

/-! ### defs -/
/-- a result ahead of the frame's end: an object of its own is nobody's any more -/
def fzD (n : Nat) (s : S) (d : D) : Option D := match d with
  | .ref i => if i < n then some d else match s.mo[i]? with
    | some (.lst xs) => some (.lst xs)
    | some (.dK ks vs) => some (.dct ks vs)
    | some (.dT (k :: ks) vs) => some (.dct (k :: ks) vs)
    | _ => none
  | d => some d
def back (s s' : S) : S := ⟨s'.mo.take s.mo.length, s.tg⟩
def fin (s : S) (d : D) (s' : S) : Out D := match fzD s.mo.length s' d with
  | some d' => if d'.low s.mo.length s.tg = true then .ok d' (back s s') else .stuck
  | none => .stuck
/-- a def's body as a function of its arguments -/
def endDef (s : S) : Fl → Out D
  | .next _ s' => .ok .non (back s s')
  | .ret d s' => fin s d s'
  | .exc c vs _ s' => if D.lows s.mo.length s.tg vs = true then .exc c vs (back s s') else .stuck
  | _ => .stuck
def runDef (n nN : Nat) (f : Sx) : S → List D → Out D := fun s ds => if ds.length = n then endDef s (f (ds.map some ++ List.replicate (nN - ds.length) none) s) else .stuck
/-- a def's promise, told by such a function -/
def spD (C : Cfg) (K : PySem.W.Frag) (F : S → List D → Out D) : Sp := fun vs H Q E => ∃ W s ds, StS C K W H s ∧ RDs C K W H ds vs ∧ match F s ds with
  | .ok d s' => ∀ W' H' v, Le W H s W' H' s' → StS C K W' H' s' → RD C K W' H' d v → Q v H'
  | .exc c es s' => ∀ W' H' dd ws, Le W H s W' H' s' → StS C K W' H' s' → W'.F dd → H' dd = some (.xd ((C.cf c).zip ws)) → (C.cf c).length = ws.length → RDs C K W' H' es ws → E (.ref (C.ca c)) (some dd) H'
  | .stuck => False

mutual
/-- low data hang on the lower part alone -/
theorem RD.low {C C' : Cfg} {K : PySem.W.Frag} {W W' : Wd} {H : Hp} {n t : Nat} (hca : C'.ca = C.ca) (hcf : C'.cf = C.cf) (hfa : C'.fa = C.fa) (hF : ∀ a, W.F a → W'.F a) (ha : ∀ i, i < n → W.al[i]? = W'.al[i]?) (ht : ∀ i, i < t → W.ts[i]? = W'.ts[i]?) :
    ∀ (d : D) (v : V), d.low n t = true → RD C K W H d v → RD C' K W' H d v
  | .non, _, _, q => q
  | .bl _, _, _, q => q
  | .int _, _, _, q => q
  | .str _, _, _, q => q
  | .lst xs, v, h, q => by
    obtain ⟨a, vs, e, f, l, r⟩ := q
    exact ⟨a, vs, e, hF a f, l, RDs.low hca hcf hfa hF ha ht xs vs h r⟩
  | .tup xs, v, h, q => by
    obtain ⟨a, vs, e, f, l, r⟩ := q
    exact ⟨a, vs, e, hF a f, l, RDs.low hca hcf hfa hF ha ht xs vs h r⟩
  | .dct ks vs, v, h, q => by
    obtain ⟨a, ws, e, f, l, r⟩ := q
    exact ⟨a, ws, e, hF a f, l, RDs.low hca hcf hfa hF ha ht vs ws (Bool.and_eq_true_iff.mp h).2 r⟩
  | .ref i, v, h, q => by
    obtain ⟨a, l, e⟩ := q
    exact ⟨a, (ha i (of_decide_eq_true h)).symm.trans l, e⟩
  | .inst c vs, v, h, q => by
    obtain ⟨a, dx, ws, e, f, l, m, r⟩ := q
    exact ⟨a, dx, ws, e, hF a f, by rw [hca, hcf]; exact l, by rw [hcf]; exact m, RDs.low hca hcf hfa hF ha ht vs ws h r⟩
  | .fn _, _, _, q => by
    have q' : _ = V.ref (C.fa _) := q
    show _ = V.ref (C'.fa _)
    rw [hfa]
    exact q'
  | .tag i d, v, h, q => ⟨(ht i (of_decide_eq_true (Bool.and_eq_true_iff.mp h).1)).symm.trans q.1, RD.low hca hcf hfa hF ha ht d v (Bool.and_eq_true_iff.mp h).2 q.2⟩
  | .exn _ _, _, h, _ => nomatch h
  | .lam _ _, _, h, _ => nomatch h
  | .scr _, _, _, q => by
    obtain ⟨a, e, f, l⟩ := q
    exact ⟨a, e, hF a f, l⟩
  | .kl xs, v, h, q => by
    obtain ⟨a, vs, e, l, r⟩ := q
    exact ⟨a, vs, e, l, RDs.low hca hcf hfa hF ha ht xs vs h r⟩
theorem RDs.low {C C' : Cfg} {K : PySem.W.Frag} {W W' : Wd} {H : Hp} {n t : Nat} (hca : C'.ca = C.ca) (hcf : C'.cf = C.cf) (hfa : C'.fa = C.fa) (hF : ∀ a, W.F a → W'.F a) (ha : ∀ i, i < n → W.al[i]? = W'.al[i]?) (ht : ∀ i, i < t → W.ts[i]? = W'.ts[i]?) :
    ∀ (ds : List D) (vs : List V), D.lows n t ds = true → RDs C K W H ds vs → RDs C' K W' H ds vs
  | [], _, _, q => q
  | d :: ds, vs, h, q => by
    obtain ⟨v, r, e, h1, h2⟩ := q
    have h' := Bool.and_eq_true_iff.mp h
    exact ⟨v, r, e, RD.low hca hcf hfa hF ha ht d v h'.1 h1, RDs.low hca hcf hfa hF ha ht ds r h'.2 h2⟩
end
/-- the world that the caller sees -/
def Wd.back (W W' : Wd) : Wd := ⟨W'.F, W.al, W.ts⟩
section
variable {C : Cfg} {K : PySem.W.Frag} {W W' : Wd} {H H' : Hp} {s s' : S}
theorem take_get {α : Type} {l : List α} {n i : Nat} {x : α} (h : (l.take n)[i]? = some x) : i < n ∧ l[i]? = some x := by
  rw [List.getElem?_take] at h
  split at h
  · rename_i hi
    exact ⟨hi, h⟩
  · cases h
theorem Le.back (l : Le W H s W' H' s') (t : StS C K W H s) : Le W H s (W.back W') H' (back s s') := by
  refine ⟨l.fz, fun _ _ h => h, fun _ _ h => h, l.ext, l.dom, fun i h => ?_, fun i a hi h => ?_, l.nw⟩
  · have hi : i < s.mo.length := (List.getElem?_eq_some_iff.mp h).1
    show (s'.mo.take s.mo.length)[i]? = some .dead
    rw [List.getElem?_take, if_pos hi]
    exact l.ded i h
  · have e : W.al[i]? = none := List.getElem?_eq_none hi
    have h' : W.al[i]? = some a := h
    rw [e] at h'
    cases h'
theorem back_al (l : Le W H s W' H' s') : ∀ i, i < W.al.length → W'.al[i]? = W.al[i]? := fun i hi => by
  have e : W.al[i]? = some W.al[i] := List.getElem?_eq_getElem hi
  rw [e]
  exact l.al i _ e
theorem back_ts (l : Le W H s W' H' s') : ∀ i, i < W.ts.length → W'.ts[i]? = W.ts[i]? := fun i hi => by
  have e : W.ts[i]? = some W.ts[i] := List.getElem?_eq_getElem hi
  rw [e]
  exact l.ts i _ e
theorem len_al (l : Le W H s W' H' s') : W.al.length ≤ W'.al.length := by
  cases h : W.al.length with
  | zero => exact Nat.zero_le _
  | succ n =>
    have hi : n < W.al.length := by omega
    have e : W.al[n]? = some W.al[n] := List.getElem?_eq_getElem hi
    have := (List.getElem?_eq_some_iff.mp (l.al n _ e)).1
    omega
theorem StS.back (l : Le W H s W' H' s') (t : StS C K W H s) (t' : StS C K W' H' s') : StS C K (W.back W') H' (DV.back s s') := by
  have hl := len_al l
  have e1 := t.len
  have e2 := t'.len
  refine ⟨?_, t.tln, t.nod, fun i o a h1 h2 => ?_, fun a h => ?_, fun a ha => l.dom a (t.alh a ha), tbs_mono t'.tb fun _ h => h⟩
  · show W.al.length = (s'.mo.take s.mo.length).length
    rw [List.length_take]
    omega
  · obtain ⟨hi, h3⟩ := take_get h1
    have h2' : W.al[i]? = some a := h2
    have m := t'.mo i o a h3 (l.al i a h2')
    cases o with
    | lst xs =>
      obtain ⟨vs, g1, g2, g3⟩ := m
      exact ⟨vs, g1, RDs.low (W := W') (W' := W.back W') (n := 0) (t := 0) rfl rfl rfl (fun _ z => z) (fun i z => absurd z (Nat.not_lt_zero _)) (fun i z => absurd z (Nat.not_lt_zero _)) xs vs g3 g2, g3⟩
    | dK ks vs =>
      obtain ⟨kvs, g1, g2, g3, g4⟩ := m
      exact ⟨kvs, g1, g2, RDs.low (W := W') (W' := W.back W') (n := 0) (t := 0) rfl rfl rfl (fun _ z => z) (fun i z => absurd z (Nat.not_lt_zero _)) (fun i z => absurd z (Nat.not_lt_zero _)) vs _ g4 g3, g4⟩
    | dT ks vs =>
      obtain ⟨kvs, g1, g2, g3, g4⟩ := m
      exact ⟨kvs, g1, g2, RDs.low (W := W') (W' := W.back W') (n := 0) (t := 0) rfl rfl rfl (fun _ z => z) (fun i z => absurd z (Nat.not_lt_zero _)) (fun i z => absurd z (Nat.not_lt_zero _)) vs _ g4 g3, g4⟩
    | ins c vs =>
      obtain ⟨dx, ws, g1, g2, g3, g4⟩ := m
      exact ⟨dx, ws, g1, g2, RDs.low (W := W') (W' := W.back W') (n := 0) (t := 0) rfl rfl rfl (fun _ z => z) (fun i z => absurd z (Nat.not_lt_zero _)) (fun i z => absurd z (Nat.not_lt_zero _)) vs _ g4 g3, g4⟩
    | dead => exact True.intro
  · obtain ⟨g1, g2, g3⟩ := t'.fz a h
    refine ⟨g1, g2, fun i hi => ?_⟩
    have hi' : W.al[i]? = some a := hi
    have hlt := (List.getElem?_eq_some_iff.mp hi').1
    show (s'.mo.take s.mo.length)[i]? = some .dead
    rw [List.getElem?_take, if_pos (by omega)]
    exact g3 i (l.al i a hi')
end
/-- an object that changed is frozen -/
theorem StS.freeze {C : Cfg} {K : PySem.W.Frag} {W : Wd} {H : Hp} {s : S} (t : StS C K W H s) {i : Nat} {a : Addr} (ha : W.al[i]? = some a) (n : ∀ o, H a = some o → ntb o) : StS C K (W.add a) H ⟨s.mo.set i .dead, s.tg⟩ ∧ Le W H s (W.add a) H ⟨s.mo.set i .dead, s.tg⟩ := by
  have hi : i < s.mo.length := by rw [← t.len]; exact (List.getElem?_eq_some_iff.mp ha).1
  have l : Le W H s (W.add a) H ⟨s.mo.set i .dead, s.tg⟩ := by
    refine ⟨fun _ h => .inl h, fun _ _ h => h, fun _ _ h => h, fun _ _ h _ _ => h, fun _ h => h, fun j h => ?_, fun j b hj h => ?_, fun b h => Or.imp id (fun z => .inr (by rw [z]; exact List.mem_of_getElem? ha)) h⟩
    · show (s.mo.set i .dead)[j]? = some .dead
      by_cases e : i = j
      · subst e
        exact List.getElem?_set_self hi
      · rw [List.getElem?_set_ne e]
        exact h
    · have e : W.al[j]? = none := List.getElem?_eq_none hj
      have h' : W.al[j]? = some b := h
      rw [e] at h'
      cases h'
  refine ⟨⟨?_, t.tln, t.nod, fun j o b h1 h2 => ?_, fun b h => ?_, t.alh, tbs_mono t.tb fun _ h => .inl h⟩, l⟩
  · show W.al.length = (s.mo.set i .dead).length
    rw [List.length_set]
    exact t.len
  · have h1' : (s.mo.set i .dead)[j]? = some o := h1
    have h2' : W.al[j]? = some b := h2
    by_cases e : i = j
    · subst e
      rw [List.getElem?_set_self hi] at h1'
      cases h1'
      exact True.intro
    · rw [List.getElem?_set_ne e] at h1'
      exact mok_later l t (fun _ z => z) (t.mo j o b h1' h2')
  · have key : ∀ j : Nat, W.al[j]? = some b → (b = a → j = i) := fun j hj e => by
      subst e
      obtain ⟨q1, q2⟩ := List.getElem?_eq_some_iff.mp hj
      obtain ⟨q3, q4⟩ := List.getElem?_eq_some_iff.mp ha
      exact (List.getElem_inj t.nod).mp (q2.trans q4.symm)
    rcases h with h | h
    · obtain ⟨g1, g2, g3⟩ := t.fz b h
      refine ⟨g1, g2, fun j hj => ?_⟩
      show (s.mo.set i .dead)[j]? = some .dead
      by_cases e : i = j
      · subst e
        exact List.getElem?_set_self hi
      · rw [List.getElem?_set_ne e]
        exact g3 j hj
    · refine ⟨t.alh b (by rw [h]; exact List.mem_of_getElem? ha), fun o ho => n o (by rw [← h]; exact ho), fun j hj => ?_⟩
      have e := key j hj h
      subst e
      exact List.getElem?_set_self hi
theorem sst_dK {kvs : List (Key × V)} : ntb (.dK kvs) := fun _ z => nomatch z
theorem fz_ok {C : Cfg} {K : PySem.W.Frag} {W : Wd} {H : Hp} {s : S} {n : Nat} {d d' : D} {v : V} (t : StS C K W H s) (r : RD C K W H d v) (h : fzD n s d = some d') :
    ∃ W' s', Le W H s W' H s' ∧ StS C K W' H s' ∧ RD C K W' H d' v ∧ s'.tg = s.tg ∧ s'.mo.take n = s.mo.take n := by
  unfold fzD at h
  split at h
  · rename_i i
    split at h
    · cases h
      exact ⟨W, s, Le.refl, t, r, rfl, rfl⟩
    · rename_i hn
      obtain ⟨a, ha, e⟩ := r
      have tk : (s.mo.set i .dead).take n = s.mo.take n := by
        rw [List.take_set, List.set_eq_of_length_le]
        rw [List.length_take]
        omega
      split at h
      · rename_i xs hx
        cases h
        obtain ⟨vs, g1, g2, g3⟩ := t.mo i _ a hx ha
        obtain ⟨t2, l2⟩ := t.freeze ha (fun o ho => by rw [g1] at ho; cases ho; exact fun _ z => nomatch z)
        exact ⟨_, _, l2, t2, ⟨a, vs, e, .inr rfl, g1, g2.mono l2 t⟩, rfl, tk⟩
      · rename_i ks vs hx
        cases h
        obtain ⟨kvs, g1, g2, g3, g4⟩ := t.mo i _ a hx ha
        obtain ⟨t2, l2⟩ := t.freeze ha (fun o ho => by rw [g1] at ho; cases ho; exact fun _ z => nomatch z)
        exact ⟨_, _, l2, t2, ⟨a, _, e, .inr rfl, .inl ⟨kvs, g1, g2, rfl⟩, g3.mono l2 t⟩, rfl, tk⟩
      · rename_i k0 ks vs hx
        cases h
        obtain ⟨kvs, g1, g2, g3, g4⟩ := t.mo i _ a hx ha
        obtain ⟨t2, l2⟩ := t.freeze ha (fun o ho => by rw [g1] at ho; cases ho; exact fun _ z => nomatch z)
        exact ⟨_, _, l2, t2, ⟨a, _, e, .inr rfl, .inr ⟨kvs, g1, g2, rfl, by intro z; rw [z] at g2; cases g2⟩, g3.mono l2 t⟩, rfl, tk⟩
      · cases h
  · cases h
    exact ⟨W, s, Le.refl, t, r, rfl, rfl⟩
theorem back_eq {s s1 s2 : S} (h : s2.mo.take s.mo.length = s1.mo.take s.mo.length) : DV.back s s2 = DV.back s s1 := by
  unfold DV.back
  rw [h]
/-- THE END OF A FRAME -/
theorem end_ok {C : Cfg} {K : PySem.W.Frag} {W W1 : Wd} {H H1 : Hp} {s s1 : S} {d : D} {v : V} {Q : VK} {E : XK} (t : StS C K W H s) (l : Le W H s W1 H1 s1) (t1 : StS C K W1 H1 s1) (r : RD C K W1 H1 d v)
    (h : match fin s d s1 with
      | .ok d s' => ∀ W' H' v, Le W H s W' H' s' → StS C K W' H' s' → RD C K W' H' d v → Q v H'
      | .exc c es s' => ∀ W' H' dd ws, Le W H s W' H' s' → StS C K W' H' s' → W'.F dd → H' dd = some (.xd ((C.cf c).zip ws)) → (C.cf c).length = ws.length → RDs C K W' H' es ws → E (.ref (C.ca c)) (some dd) H'
      | .stuck => False) : Q v H1 := by
  revert h
  unfold fin
  cases hf : fzD s.mo.length s1 d with
  | none => exact fun h => h.elim
  | some d' =>
    obtain ⟨W2, s2, l2, t2, r2, e1, e2⟩ := fz_ok t1 r hf
    have l3 := l.trans l2
    by_cases hlow : d'.low s.mo.length s.tg = true
    · simp only [if_pos hlow]
      intro h
      refine h (W.back W2) H1 v ?_ ?_ (RD.low (W := W2) (W' := W.back W2) (n := s.mo.length) (t := s.tg) rfl rfl rfl (fun _ z => z) (fun i hi => back_al l3 i (by rw [t.len]; exact hi)) (fun i hi => back_ts l3 i (by rw [t.tln]; exact hi)) d' v hlow r2)
      · rw [← back_eq e2]
        exact l3.back t
      · rw [← back_eq e2]
        exact StS.back l3 t t2
    · simp only [if_neg hlow]
      exact fun h => h.elim
theorem RDs.start {C : Cfg} {K : PySem.W.Frag} {W : Wd} {H : Hp} {s : S} {N : List Str} {ds : List D} {vs : List V} (t : StS C K W H s) (r : RDs C K W H ds vs) : StE C K W H (L2.start N vs) (ds.map some ++ List.replicate (N.length - ds.length) none) s := by
  have e := r.length
  refine ⟨t, ?_, fun i d h => ?_⟩
  · unfold L2.start
    simp only [List.length_append, List.length_map, List.length_replicate, e]
  · by_cases hi : i < ds.length
    · rw [List.getElem?_append_left (by simpa using hi), List.getElem?_map] at h
      cases q : ds[i]? with
      | none => rw [q] at h; cases h
      | some d' =>
        rw [q] at h
        have e2 : d' = d := Option.some.inj (Option.some.inj h)
        subst e2
        obtain ⟨v, g1, g2⟩ := r.get q
        refine ⟨v, ?_, g2⟩
        unfold L2.start
        rw [List.getElem?_append_left (by simpa [← e] using hi), List.getElem?_map, g1]
        rfl
    · rw [List.getElem?_append_right (by simpa using hi), List.getElem?_replicate] at h
      split at h <;> cases h
/-- THE RULE of a def: its body -/
theorem fn_def {C : Cfg} {P : Program} {w : World} {K : PySem.W.Frag} {mg : Str → Option Value} {base : Heap} {k : Nat} {x qual : Str} {st : Stmt} {f : Addr} {fd : FuncData} {N ps : List Str} {body : Sx} (F : Fun K x qual st f fd) (S : FnScope N ps (defScope st))
    (hb : ∀ (cdv : Value) (A : Around) (outer : List PySem.Env) (s : Shared) (H : Hp) (E : XK), Room k (A.deeper (envOfC qual (defScope st) s.heap.objs.size f cdv)) →
      DSs C (cxOf (L2.CX P w) P w K mg base N qual (defScope st) f cdv A outer s H E) (fun c d _ H => E c d H) (defBody st) body) : FnOk P w K mg base (L2.CX P w) (k + 1) f fd ps (spD C K (runDef ps.length N.length body)) := by
  refine F.okX S (fun vs H Q E h => ?_) (fun cdv A outer s H vs Q E hr h => ?_)
  · obtain ⟨W, s, ds, t, r, q⟩ := h
    rw [← r.length]
    by_cases hn : ds.length = ps.length
    · exact hn
    · unfold runDef at q
      rw [if_neg hn] at q
      exact q.elim
  · obtain ⟨W, s0, ds, t, r, q⟩ := h
    refine ⟨_, hb cdv A outer s H E hr, W, _, s0, RDs.start t r, ?_⟩
    unfold runDef at q
    by_cases hn : ds.length = ps.length
    · rw [if_pos hn] at q
      revert q
      cases body (ds.map some ++ List.replicate (N.length - ds.length) none) s0 with
      | next e' s' => exact fun q W1 σ1 H1 l1 e1 => q (W.back W1) H1 .non (l1.back t) (StS.back l1 t e1.st) rfl
      | ret d s' => exact fun q W1 v H1 l1 t1 r1 => end_ok (E := E) t l1 t1 r1 q
      | exc c vs e' s' =>
        unfold endDef
        by_cases hlow : D.lows s0.mo.length s0.tg vs = true
        · simp only [if_pos hlow]
          intro q W1 σ1 H1 dd ws l1 e1 f1 g1 n1 r1
          exact q (W.back W1) H1 dd ws (l1.back t) (StS.back l1 t e1.st) f1 g1 n1 (RDs.low (W := W1) (W' := W.back W1) (n := s0.mo.length) (t := s0.tg) rfl rfl rfl (fun _ z => z) (fun i hi => back_al l1 i (by rw [t.len]; exact hi)) (fun i hi => back_ts l1 i (by rw [t.tln]; exact hi)) vs ws hlow r1)
        · simp only [if_neg hlow]
          exact fun q => q.elim
      | brk _ _ => exact fun q => q.elim
      | cont _ _ => exact fun q => q.elim
      | stuck => exact fun q => q.elim
    · rw [if_neg hn] at q
      exact q.elim

section
variable {C : Cfg} {X : Cx} {Wx : WX} {e : Expr} {es : List Expr} {fa : Ax} {pos p : Pos} {x : Str} {k n : Nat} {f : Addr} {fd : FuncData} {ps : List Str} {F : S → List D → Out D}
/-- a function of data on values -/
def rc (C : Cfg) (K : PySem.W.Frag) (F : S → List D → Out D) : List V → Hp → VK → Prop := fun vs H Q => ∃ W s ds, StS C K W H s ∧ RDs C K W H ds vs ∧ match F s ds with
  | .ok d s' => ∀ W' H' v, Le W H s W' H' s' → StS C K W' H' s' → RD C K W' H' d v → Q v H'
  | _ => False
/-- never an exception -/
def noX (F : S → List D → Out D) : S → List D → Out D := fun s ds => match F s ds with
  | .ok d s' => .ok d s'
  | _ => .stuck
theorem tD_call {K : PySem.W.Frag} : ∀ σ H Q, tD C K Wx (xCall F fa) σ H Q → tAx C K Wx fa σ H fun vs H1 => spD C K F vs H1 Q (WE Wx σ) := fun σ H Q h => by
  obtain ⟨W, env, s, e, q⟩ := h
  refine ⟨W, env, s, e, Res.step q fun W1 H1 s1 ds vs l1 e1 h1 q1 => ⟨W1, s1, ds, e1.st, h1, ?_⟩⟩
  revert q1
  cases F s1 ds with
  | ok d s2 => exact fun q3 W2 H2 v l2 t2 r2 => q3 W2 H2 v l2 (e1.later l2 t2) r2
  | exc c vs s2 => exact fun q3 W2 H2 dd ws l2 t2 f2 g2 n2 r2 => q3 W2 H2 dd ws l2 (e1.later l2 t2) f2 g2 n2 r2
  | stuck => exact fun q3 => q3
theorem tD_callB {K : PySem.W.Frag} : ∀ σ H Q, tD C K Wx (xCall (noX F) fa) σ H Q → tAx C K Wx fa σ H fun vs H1 => rc C K F vs H1 Q := fun σ H Q h => by
  obtain ⟨W, env, s, e, q⟩ := h
  refine ⟨W, env, s, e, Res.step q fun W1 H1 s1 ds vs l1 e1 h1 q1 => ⟨W1, s1, ds, e1.st, h1, ?_⟩⟩
  revert q1
  unfold noX
  cases F s1 ds with
  | ok d s2 => exact fun q3 W2 H2 v l2 t2 r2 => q3 W2 H2 v l2 (e1.later l2 t2) r2
  | exc c vs s2 => exact fun q3 => q3
  | stuck => exact fun q3 => q3
/-- f(..), f a def -/
theorem de_call (G : FnOk X.prog X.w X.K X.mg X.base (L2.CX X.prog X.w) k f fd ps (spD C X.K F)) (hr : Room k X.A) (hg : Gl X x) (hm : X.mg x = some (.ref f)) (hk : PySem.W.keepIn X.K (.ref f) = true) (hb : Binds X.K fd ps []) (tk : Takes X Wx)
    (ha : DA C X Wx (e :: es) fa) (hdb : (x == ("__debug__" : Str)) = false := by decide) (he : starEach (e :: es) X.env = (false, eval e X.env) :: starEach es X.env := by rfl) (hpl : (backTo pos (starEach es X.env)).any (·.1) = false := by rfl) :
    DE C X Wx (.Call (.Name x p) (e :: es) [] pos) (xCall F fa) := PE.imp (pe_callS G hr hg hm hk hb (fun σ => passAt tk σ) ha hdb he hpl) tD_call
theorem de_callB {id : String} (hc : CallR X (.builtin id) (rc C X.K F)) (hg : Gl X x) (hm : X.mg x = none) (hv : bootBuiltins x = some (.builtin id)) (ha : DA C X Wx (e :: es) fa) (hn : x ≠ "__name__" := by decide) (hdb : (x == ("__debug__" : Str)) = false := by decide)
    (he : starEach (e :: es) X.env = (false, eval e X.env) :: starEach es X.env := by rfl) (hpl : (backTo pos (starEach es X.env)).any (·.1) = false := by rfl) : DE C X Wx (.Call (.Name x p) (e :: es) [] pos) (xCall (noX F) fa) :=
  PE.imp (pe_callB hc hg hm hv ha hn hdb he hpl) tD_callB
theorem de_callTy {T : String} (hc : CallR X (.type T) (rc C X.K F)) (hg : Gl X x) (hm : X.mg x = none) (hv : bootBuiltins x = some (.type T)) (ha : DA C X Wx (e :: es) fa) (hn : x ≠ "__name__" := by decide) (hdb : (x == ("__debug__" : Str)) = false := by decide)
    (he : starEach (e :: es) X.env = (false, eval e X.env) :: starEach es X.env := by rfl) (hpl : (backTo pos (starEach es X.env)).any (·.1) = false := by rfl) : DE C X Wx (.Call (.Name x p) (e :: es) [] pos) (xCall (noX F) fa) :=
  PE.imp (pe_callTy hc hg hm hv ha hn hdb he hpl) tD_callB
end
end DV
end
section
set_option Elab.async false
set_option linter.all false
set_option maxRecDepth 100000
/-! DL: what is walked, for, while, list comprehensions. -/
namespace DV
open PySem PySem.Spec PyProof.Rows L2

/-! ### frozen data stay -/
theorem Lf.rd {W W' : Wd} {H H' : Hp} (p : Lf W H W' H') {a : Addr} {u : HO} (h : W.F a) (e : Rd H a u) : Rd H' a u := by
  rcases e with e | ⟨o, e⟩
  · exact .inl (p.at_ a _ h e)
  · exact .inr ⟨o, p.at_ a _ h e⟩
section
variable {C : Cfg} {K : PySem.W.Frag} {W W' : Wd} {H H' : Hp} {s s' : S}
mutual
theorem RD.lf (p : Lf W H W' H') : ∀ (d : D) (v : V), RD C K W H d v → RD C K W' H' d v
  | .non, _, q => q
  | .bl _, _, q => q
  | .int _, _, q => q
  | .str _, _, q => q
  | .lst xs, v, q => by
    obtain ⟨a, vs, e, f, l, r⟩ := q
    exact ⟨a, vs, e, p.fz a f, p.at_ a _ f l, RDs.lf p xs vs r⟩
  | .tup xs, v, q => by
    obtain ⟨a, vs, e, f, l, r⟩ := q
    exact ⟨a, vs, e, p.fz a f, p.at_ a _ f l, RDs.lf p xs vs r⟩
  | .scr ns, v, q => by
    obtain ⟨a, e, f, l⟩ := q
    exact ⟨a, e, p.fz a f, p.rd f l⟩
  | .kl xs, v, q => by
    obtain ⟨a, vs, e, l, r⟩ := q
    exact ⟨a, vs, e, l, RDs.lf p xs vs r⟩
  | .dct ks vs, v, q => by
    obtain ⟨a, ws, e, f, l, r⟩ := q
    exact ⟨a, ws, e, p.fz a f, l.same fun o z => p.at_ a o f z, RDs.lf p vs ws r⟩
  | .ref i, v, q => by
    obtain ⟨a, l, e⟩ := q
    exact ⟨a, p.al i a l, e⟩
  | .inst c vs, v, q => by
    obtain ⟨a, dx, ws, e, f, l, n, r⟩ := q
    exact ⟨a, dx, ws, e, p.fz a f, p.at_ a _ f l, n, RDs.lf p vs ws r⟩
  | .fn _, _, q => q
  | .tag i d, v, q => ⟨p.ts i v q.1, RD.lf p d v q.2⟩
  | .exn c vs, v, q => by
    obtain ⟨a, dd, ws, x, e, f, l, n, r⟩ := q
    exact ⟨a, dd, ws, x, e, p.fz dd f, p.at_ dd _ f l, n, RDs.lf p vs ws r⟩
  | .lam i caps, v, q => by
    obtain ⟨e, a, e2, r⟩ := q
    exact ⟨e, a, e2, C.lr.st i a _ _ _ _ p r⟩
theorem RDs.lf (p : Lf W H W' H') : ∀ (ds : List D) (vs : List V), RDs C K W H ds vs → RDs C K W' H' ds vs
  | [], _, q => q
  | d :: ds, vs, q => by
    obtain ⟨v, r, e, h1, h2⟩ := q
    exact ⟨v, r, e, RD.lf p d v h1, RDs.lf p ds r h2⟩
end
/-- an object that nobody knows as data is written -/
theorem Lf.upd {p : Addr} {o : HO} (h : ¬ W.F p) : Lf W H W (upd H p o) :=
  ⟨fun _ h => h, fun _ _ h => h, fun _ _ h => h, fun a u f e => by
    have ne : a ≠ p := fun z => h (by rw [← z]; exact f)
    rw [upd_ne ne]
    exact e⟩
theorem mok_lf {a : Addr} {o : MO} (l : Lf W H W' H') (e : ∀ u, H a = some u → H' a = some u) (m : MOk C K W H a o) : MOk C K W' H' a o := by
  cases o with
  | lst xs =>
    obtain ⟨vs, h1, h2, h3⟩ := m
    exact ⟨vs, e _ h1, h2.lf l, h3⟩
  | dK ks vs =>
    obtain ⟨kvs, h1, h2, h3, h4⟩ := m
    exact ⟨kvs, e _ h1, h2, h3.lf l, h4⟩
  | dT ks vs =>
    obtain ⟨kvs, h1, h2, h3, h4⟩ := m
    exact ⟨kvs, e _ h1, h2, h3.lf l, h4⟩
  | ins c vs =>
    obtain ⟨dx, ws, h1, h2, h3, h4⟩ := m
    exact ⟨dx, ws, e _ h1, h2, h3.lf l, h4⟩
  | dead => exact True.intro
theorem StS.upd {p : Addr} {o : HO} (t : StS C K W H s) (h : ¬ W.F p) (hal : p ∉ W.al) (pl : plainAt H p) : StS C K W (upd H p o) s := by
  have l : Lf W H W (L2.upd H p o) := Lf.upd h
  refine ⟨t.len, t.tln, t.nod, fun i u a h1 h2 => ?_, fun a f => ?_, fun a ha => ?_, tabs_upd t.tb pl⟩
  · have ne : a ≠ p := fun z => hal (by rw [← z]; exact List.mem_of_getElem? h2)
    exact mok_lf l (fun v e => by rw [upd_ne ne]; exact e) (t.mo i u a h1 h2)
  · have ne : a ≠ p := fun z => h (by rw [← z]; exact f)
    rw [upd_ne ne]
    exact t.fz a f
  · have ne : a ≠ p := fun z => hal (by rw [← z]; exact ha)
    rw [upd_ne ne]
    exact t.alh a ha
theorem StE.upd {σ : L2.St} {env : Env} {p : Addr} {o : HO} (t : StE C K W H σ env s) (h : ¬ W.F p) (hal : p ∉ W.al) (pl : plainAt H p) : StE C K W (L2.upd H p o) σ env s :=
  ⟨t.st.upd h hal pl, t.sl, fun i d e => let ⟨v, a, b⟩ := t.sv i d e; ⟨v, a, b.lf (Lf.upd h)⟩⟩
end

/-! ### what is walked -/
/-- the items, and the object that must stand still meanwhile -/
structure Wk where
  items : List D
  src : List (Nat × List D)
abbrev Ix := Env → S → Out Wk
def Wk.same (w : Wk) (s : S) : Prop := ∀ p ∈ w.src, s.mo[p.1]? = some (.lst p.2)
noncomputable instance (w : Wk) (s : S) : Decidable (w.same s) := Classical.propDecidable _
/-- the iterator J gives these items, whatever else goes on -/
def Gives (C : Cfg) (K : PySem.W.Frag) (W : Wd) (H : Hp) (w : Wk) (J : It) : Prop :=
  ∀ s, StS C K W H s → ∀ W' H' s', Le W H s W' H' s' → StS C K W' H' s' → w.same s' → ∀ i : Nat, (i = w.items.length → J.stop i H') ∧
    ∀ d, w.items[i]? = some d → J.go i H' ∧ ∀ x H2, J.yld i H' x H2 → ∃ W2, Le W' H' s' W2 H2 s' ∧ StS C K W2 H2 s' ∧ RD C K W2 H2 d x
def tI (C : Cfg) (K : PySem.W.Frag) (Wx : WX) (f : Ix) : TI := fun σ H R => ∃ W env s, StE C K W H σ env s ∧ Res C K (Gives C K) Wx σ env W H s (f env s) R
def DI (C : Cfg) (X : Cx) (Wx : WX) (tg iter : Expr) (f : Ix) : Prop := PI X tg iter (tI C X.K Wx f)
theorem PI.imp {X : Cx} {tg e : Expr} {t t' : TI} (h : PI X tg e t) (f : ∀ σ H R, t' σ H R → t σ H R) : PI X tg e t' := ⟨fun pins s σ H R I q => h.run pins s σ H R I (f _ _ _ q)⟩
theorem PI.or {X : Cx} {tg e : Expr} {t t' : TI} (h : PI X tg e t) (h' : PI X tg e t') : PI X tg e (fun σ H R => t σ H R ∨ t' σ H R) := ⟨fun pins s σ H R I q => by
  rcases q with q | q
  · exact h.run pins s σ H R I q
  · exact h'.run pins s σ H R I q⟩

/-! ### for -/
/-- a turn's end, and what follows -/
def Fl.loop (r : Fl) (k : Env → S → Fl) : Fl := match r with
  | .next e s => k e s
  | .cont e s => k e s
  | .brk e s => .next e s
  | .ret d s => .ret d s
  | .exc c vs e s => .exc c vs e s
  | .stuck => .stuck
def Out.gt (o : Out Env) (k : Env → S → Fl) : Fl := match o with
  | .ok e s => k e s
  | _ => .stuck
noncomputable def forRun (g : Gx) (body : Sx) (w : Wk) : List D → Env → S → Fl
  | [], e, s => if w.same s then .next e s else .stuck
  | d :: ds, e, s => if w.same s then (g d e s).gt fun e1 s1 => (body e1 s1).loop (forRun g body w ds) else .stuck
noncomputable def sFor (ix : Ix) (g : Gx) (body : Sx) : Sx := fun e s => (ix e s).fl e fun w s => forRun g body w w.items e s
section
variable {C : Cfg} {X : Cx} {Wx : WX} {tg iter : Expr} {ix : Ix} {g : Gx} {body : List Stmt} {fb : Sx} {pos : Pos}
theorem tS_for {K : PySem.W.Frag} : ∀ D σ H, tS C K Wx (sFor ix g fb) D σ H → tFor (tI C K Wx ix) (tG C K g) (tS C K Wx fb) D σ H := fun D σ H h => by
  obtain ⟨W, env, s, e, q⟩ := h
  refine ⟨W, env, s, e, ?_⟩
  cases ho : ix env s with
  | exc c vs s1 =>
    unfold sFor at q
    rw [ho] at q
    exact fun W2 H2 dd ws q1 e1 => q W2 σ H2 dd ws q1 e1
  | stuck =>
    unfold sFor at q
    rw [ho] at q
    exact q
  | ok w s1 =>
    unfold sFor at q
    rw [ho] at q
    intro W1 H1 J l1 e1 giv
    have giv := giv s1 e1.st
    have q := ResS.later q l1
    have q : ResS C K Wx D W1 H1 s1 (forRun g fb w w.items env s1) := q
    refine ⟨fun i m σ' H' => m = w.items.length - i ∧ i ≤ w.items.length ∧ ∃ W2 env2 s2, Le W1 H1 s1 W2 H' s2 ∧ StE C K W2 H' σ' env2 s2 ∧ ResS C K Wx D W2 H' s2 (forRun g fb w (w.items.drop i) env2 s2), ⟨w.items.length, by omega, Nat.zero_le _, W1, env, s1, Le.refl, e1, q⟩, ?_⟩
    rintro i m σ2 H2 ⟨rfl, hi, W2, env2, s2, l2, e2, q2⟩
    have gv := giv W2 H2 s2 l2 e2.st
    by_cases hlt : i < w.items.length
    · have hd : w.items.drop i = w.items[i] :: w.items.drop (i + 1) := List.drop_eq_getElem_cons hlt
      rw [hd] at q2
      unfold forRun at q2
      by_cases hs : w.same s2
      · rw [if_pos hs] at q2
        obtain ⟨_, h2⟩ := gv hs i
        obtain ⟨go, yl⟩ := h2 _ (List.getElem?_eq_getElem hlt)
        refine .inr ⟨go, fun σ' H' => i + 1 ≤ w.items.length ∧ ∃ W3 env3 s3, Le W1 H1 s1 W3 H' s3 ∧ StE C K W3 H' σ' env3 s3 ∧ ResS C K Wx D W3 H' s3 (forRun g fb w (w.items.drop (i + 1)) env3 s3),
          fun σ' H' ⟨a, b⟩ => ⟨w.items.length - (i + 1), by omega, rfl, a, b⟩, fun x H3 y => ?_⟩
        obtain ⟨W3, l3, t3, r3⟩ := yl x H3 y
        have e3 := e2.later l3 t3
        refine ⟨W3, env2, s2, _, e3, r3, ?_⟩
        revert q2
        cases g w.items[i] env2 s2 with
        | ok e4 s4 =>
          intro q2 W4 σ4 H4 l4 e4'
          refine ⟨W4, e4, s4, e4', ?_⟩
          have l5 := (l2.trans l3).trans l4
          have q2 : ResS C K Wx D W4 H4 s4 ((fb e4 s4).loop (forRun g fb w (w.items.drop (i + 1)))) := ResS.later q2 (l3.trans l4)
          revert q2
          cases fb e4 s4 with
          | next e5 s5 => exact fun q2 W5 σ5 H5 l6 e6 => ⟨hlt, W5, e5, s5, l5.trans l6, e6, ResS.later q2 l6⟩
          | cont e5 s5 => exact fun q2 W5 σ5 H5 l6 e6 => ⟨hlt, W5, e5, s5, l5.trans l6, e6, ResS.later q2 l6⟩
          | brk e5 s5 => exact fun q2 => q2
          | ret d s5 => exact fun q2 => q2
          | exc _ _ _ _ => exact fun q2 => q2
          | stuck => exact fun q2 => q2
        | exc _ _ _ => exact fun q2 => q2.elim
        | stuck => exact fun q2 => q2.elim
      · rw [if_neg hs] at q2
        exact q2.elim
    · have hi' : i = w.items.length := by omega
      subst hi'
      rw [List.drop_length] at q2
      unfold forRun at q2
      by_cases hs : w.same s2
      · rw [if_pos hs] at q2
        exact .inl ⟨(gv hs _).1 rfl, ResS.here q2 e2⟩
      · rw [if_neg hs] at q2
        exact q2.elim
theorem ds_for (hp : PassesOwn (model X.prog X.w) X.A X.env X.xe) (hc : X.calm = true) (hi : DI C X Wx tg iter ix) (hg : DG C X tg g) (hb : DSs C X Wx body fb) (hs : ∀ x, foldedSetIterable iter X.env x = pure x := by intro _; rfl) :
    DS C X Wx (.For tg iter body [] pos) (sFor ix g fb) := PS.imp (ps_for hp hc hi hg hb hs) tS_for
end

/-! ### while -/
def whileRun (t : Tx) (body : Sx) : Nat → Env → S → Fl
  | 0, _, _ => .stuck
  | n + 1, e, s => (t e s).fl e fun b s1 => if b = true then (body e s1).loop (whileRun t body n) else .next e s1
def sWhile (n : Nat) (t : Tx) (body : Sx) : Sx := fun e s => whileRun t body n e s
section
variable {C : Cfg} {X : Cx} {Wx : WX} {c : Expr} {ft : Tx} {body : List Stmt} {fb : Sx} {pos : Pos} {n : Nat}
theorem tS_while {K : PySem.W.Frag} : ∀ D σ H, tS C K Wx (sWhile n ft fb) D σ H → tWhile (tT C K Wx ft) (tS C K Wx fb) D σ H := fun D σ H h => by
  obtain ⟨W, env, s, e, q⟩ := h
  refine ⟨fun m σ' H' => ∃ W2 env2 s2, StE C K W2 H' σ' env2 s2 ∧ ResS C K Wx D W2 H' s2 (whileRun ft fb m env2 s2), ⟨n, W, env, s, e, q⟩, ?_⟩
  rintro m σ2 H2 ⟨W2, env2, s2, e2, q2⟩
  cases m with
  | zero => exact q2.elim
  | succ m =>
    unfold whileRun at q2
    refine ⟨W2, env2, s2, e2, Res.fl q2 fun W3 H3 s3 b b' l3 e3 h3 q3 => ?_⟩
    have h4 : b = b' := h3
    subst h4
    cases b with
    | false => exact ResS.here q3 e3
    | true =>
      rw [if_pos rfl] at q3 ⊢
      refine ⟨fun σ' H' => ∃ W4 env4 s4, StE C K W4 H' σ' env4 s4 ∧ ResS C K Wx D W4 H' s4 (whileRun ft fb m env4 s4), fun σ' H' z => ⟨m, Nat.lt_succ_self _, z⟩, W3, env2, s3, e3, ?_⟩
      revert q3
      cases fb env2 s3 with
      | next e5 s5 => exact fun q3 W5 σ5 H5 l5 e6 => ⟨W5, e5, s5, e6, ResS.later q3 l5⟩
      | cont e5 s5 => exact fun q3 W5 σ5 H5 l5 e6 => ⟨W5, e5, s5, e6, ResS.later q3 l5⟩
      | brk e5 s5 => exact fun q3 => q3
      | ret d s5 => exact fun q3 => q3
      | exc _ _ _ _ => exact fun q3 => q3
      | stuck => exact fun q3 => q3
theorem ds_while (hp : PassesOwn (model X.prog X.w) X.A X.env X.xe) (hc : DT C X Wx c ft) (hb : DSs C X Wx body fb) : DS C X Wx (.While c body [] pos) (sWhile n ft fb) := PS.imp (ps_while hp hc hb) tS_while
end

/-! ### new lists: nobody's yet -/
theorem Le.addF {H H' : Hp} {W W' : Wd} {s s' : S} {p : Addr} (l : Le W H s W' H' s') (hD : H p = none) : Le W H s (W'.add p) H' s' :=
  ⟨fun a h => .inl (l.fz a h), l.al, l.ts, l.ext, l.dom, l.ded, l.new, fun a h => Or.elim h (l.nw a) fun z => .inr (.inl (by rw [z]; exact hD))⟩
theorem StE.addF {C : Cfg} {K : PySem.W.Frag} {H : Hp} {W : Wd} {s : S} {p : Addr} {σ : L2.St} {env : Env} (t : StE C K W H σ env s) (h1 : H p ≠ none) (h2 : ∀ o, H p = some o → ntb o) (h3 : p ∉ W.al) : StE C K (W.add p) H σ env s := by
  have l : Lf W H (W.add p) H := ⟨fun _ h => .inl h, fun _ _ h => h, fun _ _ h => h, fun _ _ _ h => h⟩
  refine ⟨⟨t.st.len, t.st.tln, t.st.nod, fun i o a g1 g2 => mok_lf l (fun _ z => z) (t.st.mo i o a g1 g2), fun a h => ?_, t.st.alh, tbs_mono t.st.tb fun _ h => .inl h⟩, t.sl, fun i d e => let ⟨v, a, b⟩ := t.sv i d e; ⟨v, a, b.lf l⟩⟩
  rcases h with h | h
  · exact t.st.fz a h
  · rw [h]
    exact ⟨h1, h2, fun i hi => absurd (List.mem_of_getElem? (show W.al[i]? = some p from hi)) h3⟩
/-- an object that is nobody's becomes one that changes -/
def Wd.own (W : Wd) (p : Addr) : Wd := ⟨W.F, W.al ++ [p], W.ts⟩
def S.own (s : S) (o : MO) : S := ⟨s.mo ++ [o], s.tg⟩
theorem Lf.own {H : Hp} {W : Wd} {p : Addr} : Lf W H (W.own p) H := ⟨fun _ h => h, fun i a h => by
  show (W.al ++ [p])[i]? = some a
  rw [List.getElem?_append_left (List.getElem?_eq_some_iff.mp h).1]
  exact h, fun _ _ h => h, fun _ _ _ h => h⟩
theorem Le.own {H H' : Hp} {W W' : Wd} {s s' : S} {p : Addr} {o : MO} (l : Le W H s W' H' s') (e : W'.al.length = s'.mo.length) (hp : H p = none) : Le W H s (W'.own p) H' (s'.own o) := by
  refine ⟨l.fz, fun i a h => Lf.own.al (H := H') i a (l.al i a h), l.ts, l.ext, l.dom, fun i h => ?_, fun i a hi h => ?_, l.nw⟩
  · have h2 := l.ded i h
    show (s'.mo ++ [o])[i]? = some .dead
    rw [List.getElem?_append_left (List.getElem?_eq_some_iff.mp h2).1]
    exact h2
  · have h2 : (W'.al ++ [p])[i]? = some a := h
    by_cases hl : i < W'.al.length
    · rw [List.getElem?_append_left hl] at h2
      exact l.new i a hi h2
    · rw [List.getElem?_append_right (Nat.le_of_not_lt hl)] at h2
      have h3 := List.mem_of_getElem? h2
      have h4 : a = p := by simpa using h3
      rw [h4]
      exact hp
theorem StE.own {C : Cfg} {K : PySem.W.Frag} {H : Hp} {W : Wd} {s : S} {p : Addr} {o : MO} {σ : L2.St} {env : Env} (t : StE C K W H σ env s) (h1 : H p ≠ none) (h2 : ¬ W.F p) (h3 : p ∉ W.al) (m : MOk C K (W.own p) H p o) : StE C K (W.own p) H σ env (s.own o) := by
  have lf : Lf W H (W.own p) H := Lf.own
  refine ⟨⟨?_, t.st.tln, ?_, fun i u a g1 g2 => ?_, fun a h => ?_, fun a ha => ?_, tbs_mono t.st.tb fun _ h => h⟩, t.sl, fun i d e => let ⟨v, a, b⟩ := t.sv i d e; ⟨v, a, b.lf lf⟩⟩
  · show (W.al ++ [p]).length = (s.mo ++ [o]).length
    rw [List.length_append, List.length_append, t.st.len]
    rfl
  · show (W.al ++ [p]).Nodup
    refine List.nodup_append.mpr ⟨t.st.nod, by simp, fun a ha b hb => ?_⟩
    have e : b = p := by simpa using hb
    rw [e]
    exact fun z => h3 (by rw [← z]; exact ha)
  · have g1' : (s.mo ++ [o])[i]? = some u := g1
    have g2' : (W.al ++ [p])[i]? = some a := g2
    by_cases hl : i < W.al.length
    · rw [List.getElem?_append_left (by rw [← t.st.len]; exact hl)] at g1'
      rw [List.getElem?_append_left hl] at g2'
      exact mok_lf lf (fun _ z => z) (t.st.mo i u a g1' g2')
    · have hl' := Nat.le_of_not_lt hl
      rw [List.getElem?_append_right (by rw [← t.st.len]; exact hl')] at g1'
      rw [List.getElem?_append_right hl'] at g2'
      have e1 : u = o := by simpa using List.mem_of_getElem? g1'
      have e2 : a = p := by simpa using List.mem_of_getElem? g2'
      rw [e1, e2]
      exact m
  · obtain ⟨g1, g2, g3⟩ := t.st.fz a h
    refine ⟨g1, g2, fun i hi => ?_⟩
    have hi' : (W.al ++ [p])[i]? = some a := hi
    by_cases hl : i < W.al.length
    · rw [List.getElem?_append_left hl] at hi'
      show (s.mo ++ [o])[i]? = some .dead
      rw [List.getElem?_append_left (by rw [← t.st.len]; exact hl)]
      exact g3 i hi'
    · rw [List.getElem?_append_right (Nat.le_of_not_lt hl)] at hi'
      have e2 : a = p := by simpa using List.mem_of_getElem? hi'
      exact absurd (by rw [← e2]; exact h) h2
  · have ha' : a ∈ W.al ++ [p] := ha
    rcases List.mem_append.mp ha' with z | z
    · exact t.st.alh a z
    · have e2 : a = p := by simpa using z
      rw [e2]
      exact h1
def tN (C : Cfg) (K : PySem.W.Frag) (Wx : WX) (f : Ax) : TE := fun σ H Q => ∃ W env s, StE C K W H σ env s ∧ match f env s with
  | .ok ds s' => ∀ W' H' p vs, Le W H s W' H' s' → StE C K W' H' σ env s' → ¬ W'.F p → p ∉ W'.al → H p = none → H' p = some (.lst vs) → RDs C K W' H' ds vs → Q (.ref p) H'
  | .exc c vs s' => ∀ W' H' dd ws, Le W H s W' H' s' → StE C K W' H' σ env s' → W'.F dd → H' dd = some (.xd ((C.cf c).zip ws)) → (C.cf c).length = ws.length → RDs C K W' H' vs ws → Wx (.ref (C.ca c)) (some dd) σ H'
  | .stuck => False
/-- an expression that makes a new list -/
def NE (C : Cfg) (X : Cx) (Wx : WX) (e : Expr) (f : Ax) : Prop := PE X e (tN C X.K Wx f)
/-- .. that nobody writes any more -/
def xFz (f : Ax) : Ex := fun e s => (f e s).bind fun ds s => .ok (.lst ds) s
/-- .. that is written later -/
def xOwn (f : Ax) : Ex := fun e s => (f e s).bind fun ds s => if D.lows 0 0 ds = true then .ok (.ref s.mo.length) (s.own (.lst ds)) else .stuck
section
variable {C : Cfg} {X : Cx} {Wx : WX} {e : Expr} {f : Ax}
theorem NE.fz (h : NE C X Wx e f) : DE C X Wx e (xFz f) := PE.imp h fun σ H Q h => by
  obtain ⟨W, env, s, e, q⟩ := h
  refine ⟨W, env, s, e, ?_⟩
  unfold xFz at q
  revert q
  cases f env s with
  | ok ds s' =>
    intro q W' H' p vs l e1 n1 n2 hp h1 r
    have lf : Lf W' H' (W'.add p) H' := ⟨fun _ h => .inl h, fun _ _ h => h, fun _ _ h => h, fun _ _ _ h => h⟩
    exact q _ _ (.ref p) (l.addF hp) (e1.addF (by rw [h1]; exact fun z => nomatch z) (fun o z => by rw [h1] at z; cases z; exact fun _ z => nomatch z) n2) ⟨p, vs, rfl, .inr rfl, h1, r.lf lf⟩
  | exc c vs s' => exact fun q => q
  | stuck => exact fun q => q
theorem NE.own (h : NE C X Wx e f) : DE C X Wx e (xOwn f) := PE.imp h fun σ H Q h => by
  obtain ⟨W, env, s, e, q⟩ := h
  refine ⟨W, env, s, e, ?_⟩
  unfold xOwn at q
  revert q
  cases f env s with
  | ok ds s' =>
    intro q W' H' p vs l e1 n1 n2 hp h1 r
    have q : Res C X.K (fun W H => RD C X.K W H) Wx σ env W H s (if D.lows 0 0 ds = true then .ok (.ref s'.mo.length) (s'.own (.lst ds)) else .stuck) Q := q
    by_cases hz : D.lows 0 0 ds = true
    · rw [if_pos hz] at q
      refine q (W'.own p) H' (.ref p) (l.own e1.st.len hp) (e1.own (by rw [h1]; exact fun z => nomatch z) n1 n2 ⟨vs, h1, r.lf Lf.own, hz⟩) ⟨p, ?_, rfl⟩
      show (W'.al ++ [p])[s'.mo.length]? = some p
      rw [← e1.st.len, List.getElem?_append_right (Nat.le_refl _), Nat.sub_self]
      rfl
    · rw [if_neg hz] at q
      exact q.elim
  | exc c vs s' => exact fun q => q
  | stuck => exact fun q => q
/-- a new list is laid -/
theorem new_n {K : PySem.W.Frag} {W : Wd} {H : Hp} {s : S} {σ : L2.St} {env : Env} {ds : List D} {vs : List V} {Q : VK} (H0 : Hp) (h0 : ∀ p, H p = none → H0 p = none) (t : StE C K W H σ env s) (r : RDs C K W H ds vs)
    (q : ∀ W' H' p vs, Le W H s W' H' s → StE C K W' H' σ env s → ¬ W'.F p → p ∉ W'.al → H0 p = none → H' p = some (.lst vs) → RDs C K W' H' ds vs → Q (.ref p) H') : ∀ p, H p = none → Q (.ref p) (L2.upd H p (.lst vs)) := fun p hp => by
  have nF : ¬ W.F p := fun z => (t.st.fz p z).1 hp
  have nA : p ∉ W.al := fun z => t.st.alh p z hp
  have l : Le W H s W (L2.upd H p (.lst vs)) s := ⟨fun _ h => h, fun _ _ h => h, fun _ _ h => h, fun a o h n l => by
    rw [upd_ne (ne_of_none h hp)]
    exact h, fun a h => by
    by_cases z : a = p
    · rw [z, upd_same]
      exact (fun z => nomatch z)
    · rw [upd_ne z]
      exact h, fun _ h => h, (fun i a hi h => by
      rw [List.getElem?_eq_none hi] at h
      cases h), fun _ h => .inl h⟩
  exact q W _ p vs l (t.upd nF nA (.none hp)) nF nA (h0 p hp) upd_same (r.lf (Lf.upd nF))
end

/-! ### list comprehensions -/
def wipeE (e : Env) : List Nat → Env
  | [] => e
  | v :: vs => (wipeE e vs).set v none
/-- a comprehension's target: one name, or several -/
inductive CT where
  | one (i : Nat) | many (is : List Nat)
def setAll : Env → List Nat → List D → Env
  | e, i :: is, d :: ds => setAll (e.set i (some d)) is ds
  | e, _, _ => e
def setAllV : L2.St → List Nat → List V → L2.St
  | e, i :: is, d :: ds => setAllV (e.set i (some d)) is ds
  | e, _, _ => e
def CT.bind (c : CT) (d : D) (e : Env) (s : S) : Option Env := match c with
  | .one i => some (e.set i (some d))
  | .many is => match view s d with
    | .tup xs => if xs.length = is.length then some (setAll e is xs) else none
    | .lst xs => if xs.length = is.length then some (setAll e is xs) else none
    | _ => none
def CT.slots : CT → List Nat
  | .one i => [i]
  | .many is => is
def gsN : List Nat → TGs
  | [] => gNil
  | i :: is => gCons (gName i) (gsN is)
/-- what the target is to the layer -/
def CT.ok (X : Cx) (tg : Expr) : CT → Prop
  | .one i => PG X tg (gName i)
  | .many is => PG X tg (gTup X.K is.length (gsN is)) ∧ PG X tg (gLst X.K is.length (gsN is))
def CT.tg (K : PySem.W.Frag) : CT → TG
  | .one i => gName i
  | .many is => fun v σ H Q => gTup K is.length (gsN is) v σ H Q ∨ gLst K is.length (gsN is) v σ H Q
theorem CT.pg {X : Cx} {tg : Expr} {c : CT} (h : c.ok X tg) : PG X tg (c.tg X.K) := by
  cases c with
  | one i => exact h
  | many is => exact PG.or h.1 h.2
noncomputable def compRun (c : CT) (t : Tx) (f : Ex) (vs : List Nat) (w : Wk) (e : Env) : List D → List D → S → Out (List D)
  | [], acc, s => if w.same s then .ok acc s else .stuck
  | d :: ds, acc, s => if w.same s then (match c.bind d (wipeE e vs) s with
    | some e1 => (t e1 s).bind fun b s1 => if b = true then (f e1 s1).bind fun y s2 => if acc.length < sizeLine then compRun c t f vs w e ds (acc ++ [y]) s2 else .stuck else compRun c t f vs w e ds acc s1
    | none => .stuck) else .stuck
/-- nothing is raised within a comprehension -/
def Out.lst (o : Out (List D)) : Out (List D) := match o with
  | .ok xs s => .ok xs s
  | _ => .stuck
noncomputable def aComp (ix : Ix) (c : CT) (t : Tx) (f : Ex) (vs : List Nat) : Ax := fun e s => (ix e s).bind fun w s => (compRun c t f vs w e w.items [] s).lst
def tAll : Tx := fun _ s => .ok true s
abbrev W0 : WX := fun _ _ _ _ => False
theorem wipe_setV {σ : L2.St} {i : Nat} {v : V} : ∀ {vs : List Nat}, i ∈ vs → wipe (σ.set i (some v)) vs = wipe σ vs
  | [], h => by simp at h
  | u :: vs, h => by
    show (wipe (σ.set i (some v)) vs).set u none = (wipe σ vs).set u none
    by_cases hm : i ∈ vs
    · rw [wipe_setV hm]
    · have e : i = u := by
        rcases List.mem_cons.mp h with h | h
        · exact h
        · exact absurd h hm
      subst e
      have key : ∀ (ws : List Nat), i ∉ ws → wipe (σ.set i (some v)) ws = (wipe σ ws).set i (some v) := by
        intro ws
        induction ws with
        | nil => intro _; rfl
        | cons a ws ih =>
          intro hn
          have n1 : i ≠ a := fun z => hn (by rw [z]; exact List.mem_cons_self)
          show (wipe (σ.set i (some v)) ws).set a none = ((wipe σ ws).set a none).set i (some v)
          rw [ih (fun z => hn (List.mem_cons_of_mem _ z)), List.set_comm _ _ n1]
      rw [key vs hm, List.set_set]
theorem wipe_idem {σ : L2.St} : ∀ {vs : List Nat}, wipe (wipe σ vs) vs = wipe σ vs := by
  have key : ∀ (vs ws : List Nat) (σ : L2.St), wipe (wipe σ ws) vs = wipe (wipe σ vs) ws := by
    intro vs
    induction vs with
    | nil => intro ws σ; rfl
    | cons a vs ih =>
      intro ws σ
      show (wipe (wipe σ ws) vs).set a none = wipe ((wipe σ vs).set a none) ws
      rw [ih]
      generalize wipe σ vs = τ
      induction ws with
      | nil => rfl
      | cons b ws ih2 =>
        show ((wipe τ ws).set b none).set a none = (wipe (τ.set a none) ws).set b none
        rw [← ih2]
        by_cases e : a = b
        · rw [e]
        · rw [List.set_comm _ _ (Ne.symm e)]
  intro vs
  induction vs with
  | nil => rfl
  | cons a vs ih =>
    show (wipe ((wipe σ vs).set a none) vs).set a none = (wipe σ vs).set a none
    have h := key vs [a] (wipe σ vs)
    have h' : wipe ((wipe σ vs).set a none) vs = (wipe (wipe σ vs) vs).set a none := h
    rw [h', ih, List.set_set]
theorem StE.wipe {C : Cfg} {K : PySem.W.Frag} {σ : L2.St} {env : Env} {W : Wd} {H : Hp} {s : S} (e : StE C K W H σ env s) : ∀ vs : List Nat, StE C K W H (L2.wipe σ vs) (wipeE env vs) s
  | [] => e
  | v :: vs => (StE.wipe e vs).unset v
theorem gsN_of {is : List Nat} : ∀ {vs : List V} {σ : L2.St} {H : Hp} {Q : L2.St → Hp → Prop}, vs.length = is.length → Q (setAllV σ is vs) H → gsN is vs σ H Q := by
  induction is with
  | nil =>
    intro vs σ H Q h q
    cases vs with
    | nil => exact ⟨rfl, q⟩
    | cons _ _ => cases h
  | cons i is ih =>
    intro vs σ H Q h q
    cases vs with
    | nil => cases h
    | cons v vs => exact ⟨v, vs, rfl, ih (by simpa using h) q⟩
theorem StE.setAll {C : Cfg} {K : PySem.W.Frag} {W : Wd} {H : Hp} {s : S} : ∀ {is : List Nat} {σ : L2.St} {env : Env} {ds : List D} {vs : List V}, StE C K W H σ env s → RDs C K W H ds vs → StE C K W H (setAllV σ is vs) (DV.setAll env is ds) s
  | [], σ, env, ds, vs, e, r => by
    cases ds <;> cases vs <;> exact e
  | i :: is, σ, env, [], vs, e, r => by
    have h : vs = [] := r
    subst h
    exact e
  | i :: is, σ, env, d :: ds, vs, e, r => by
    obtain ⟨v, rs, rfl, h1, h2⟩ := r
    show StE C K W H (setAllV (σ.set i (some v)) is rs) (DV.setAll (env.set i (some d)) is ds) s
    exact StE.setAll (e.set i h1) h2
theorem wipe_setAll : ∀ {is : List Nat} {σ : L2.St} {vs : List V} {ws : List Nat}, (∀ i ∈ is, i ∈ ws) → wipe (setAllV σ is vs) ws = wipe σ ws
  | [], σ, vs, ws, h => by cases vs <;> rfl
  | i :: is, σ, [], ws, h => rfl
  | i :: is, σ, v :: vs, ws, h => by
    show wipe (setAllV (σ.set i (some v)) is vs) ws = wipe σ ws
    rw [wipe_setAll (fun j hj => h j (List.mem_cons_of_mem _ hj)), wipe_setV (h i List.mem_cons_self)]
/-- the target takes the item -/
theorem CT.take {C : Cfg} {K : PySem.W.Frag} {W : Wd} {H : Hp} {σ : L2.St} {env e1 : Env} {s : S} {c : CT} {d : D} {x : V} {ws : List Nat} {Q : L2.St → Hp → Prop} (e : StE C K W H σ env s) (r : RD C K W H d x) (h : c.bind d env s = some e1) (hw : ∀ i ∈ c.slots, i ∈ ws)
    (q : ∀ σ2, StE C K W H σ2 e1 s → L2.wipe σ2 ws = L2.wipe σ ws → Q σ2 H) : c.tg K x σ H Q := by
  cases c with
  | one i =>
    cases h
    exact q _ (e.set i r) (wipe_setV (hw i (List.mem_cons_self)))
  | many is =>
    have z := see_of e.st r
    have h : (match view s d with
      | .tup xs => if xs.length = is.length then some (DV.setAll env is xs) else none
      | .lst xs => if xs.length = is.length then some (DV.setAll env is xs) else none
      | _ => none) = some e1 := h
    cases hv : view s d with
    | tup xs =>
      rw [hv] at z h
      obtain ⟨a, vs, e2, l, rs⟩ := z
      by_cases hl : xs.length = is.length
      · simp only [if_pos hl] at h
        cases h
        have hl2 : vs.length = is.length := by rw [← rs.length]; exact hl
        exact .inl ⟨a, vs, e2, SqT.of l, hl2, gsN_of hl2 (q _ (e.setAll rs) (wipe_setAll hw))⟩
      · simp only [if_neg hl] at h
        cases h
    | lst xs =>
      rw [hv] at z h
      obtain ⟨a, vs, e2, l, rs⟩ := z
      by_cases hl : xs.length = is.length
      · simp only [if_pos hl] at h
        cases h
        have hl2 : vs.length = is.length := by rw [← rs.length]; exact hl
        exact .inr ⟨a, vs, e2, SqL.of l, hl2, gsN_of hl2 (q _ (e.setAll rs) (wipe_setAll hw))⟩
      · simp only [if_neg hl] at h
        cases h
    | _ =>
      rw [hv] at h
      cases h
section
variable {C : Cfg} {X : Cx} {Wx : WX} {tg iter elt : Expr} {ix : Ix} {c : CT} {ft : Tx} {fe : Ex} {pos : Pos} {vs : List Nat}
theorem Le.fresh {H : Hp} {W : Wd} {s : S} {p : Addr} {o : HO} (hD : H p = none) : Le W H s W (L2.upd H p o) s := by
  refine ⟨fun _ h => h, fun _ _ h => h, fun _ _ h => h, fun a o h n l => ?_, fun a h => ?_, fun _ h => h, fun i a hi h => ?_, fun _ h => .inl h⟩
  · rw [upd_ne (ne_of_none h hD)]
    exact h
  · by_cases z : a = p
    · rw [z, upd_same]
      exact fun z => nomatch z
    · rw [upd_ne z]
      exact h
  · rw [List.getElem?_eq_none hi] at h
    cases h
/-- from a state in which p did not stand: p may be written -/
theorem Le.over {H H' : Hp} {W W' : Wd} {s s' : S} {p : Addr} {o : HO} (l : Le W H s W' H' s') (hD : H p = none) : Le W H s W' (L2.upd H' p o) s' := by
  refine ⟨l.fz, l.al, l.ts, fun a u h n q => ?_, fun a h => ?_, l.ded, l.new, l.nw⟩
  · rw [upd_ne (ne_of_none h hD)]
    exact l.ext a u h n q
  · by_cases z : a = p
    · rw [z, upd_same]
      exact fun z => nomatch z
    · rw [upd_ne z]
      exact l.dom a h
theorem tN_comp {K : PySem.W.Frag} (hw : ∀ i ∈ c.slots, i ∈ vs) : ∀ σ H Q, tN C K Wx (aComp ix c ft fe vs) σ H Q → tLc (tI C K Wx ix) (c.tg K) (tT C K W0 ft) (tD C K W0 fe) vs σ H Q := fun σ H Q h => by
  obtain ⟨W, env, s, e, q⟩ := h
  refine ⟨W, env, s, e, ?_⟩
  unfold aComp at q
  cases hix : ix env s with
  | exc c vs s1 =>
    rw [hix] at q
    exact q
  | stuck =>
    rw [hix] at q
    exact q
  | ok w s1 =>
  rw [hix] at q
  intro W1 H1 J l1 e1 giv
  have giv := giv s1 e1.st
  intro D hD
  have nF : ¬ W1.F D := fun z => (e1.st.fz D z).1 hD
  have nA : D ∉ W1.al := fun z => e1.st.alh D z hD
  have ntl : ∀ xs : List V, ntb (.lst xs) := fun _ _ z => nomatch z
  -- what stays true between two turns
  let Inv1 : Nat → Hp → Prop := fun i H' => ∃ W2 s2 acc av, Le W1 H1 s1 W2 H' s2 ∧ StE C K W2 H' σ env s2 ∧ ¬ W2.F D ∧ D ∉ W2.al ∧ H' D = some (.lst av) ∧ RDs C K W2 H' acc av ∧
      (∃ xs s3, compRun c ft fe vs w env (w.items.drop i) acc s2 = .ok xs s3 ∧ ∀ W' H'' p vs, Le W1 H1 s1 W' H'' s3 → StE C K W' H'' σ env s3 → ¬ W'.F p → p ∉ W'.al → H1 p = none → H'' p = some (.lst vs) → RDs C K W' H'' xs vs → Q (.ref p) H'')
  have key : ∃ xs s3, compRun c ft fe vs w env w.items [] s1 = .ok xs s3 ∧ ∀ W' H'' p vs, Le W1 H1 s1 W' H'' s3 → StE C K W' H'' σ env s3 → ¬ W'.F p → p ∉ W'.al → H1 p = none → H'' p = some (.lst vs) → RDs C K W' H'' xs vs → Q (.ref p) H'' := by
    revert q
    show (match (compRun c ft fe vs w env w.items [] s1).lst with
      | .ok ds s' => _
      | .exc c vs s' => _
      | .stuck => False) → _
    cases compRun c ft fe vs w env w.items [] s1 with
    | ok xs s3 => exact fun q => ⟨xs, s3, rfl, fun W' H'' p vs l => fun a b d g => q W' H'' p vs (l1.trans l) a b d (l1.wasNone g)⟩
    | exc _ _ _ => exact fun q => q.elim
    | stuck => exact fun q => q.elim
  refine ⟨fun i m H' => m = w.items.length - i ∧ i ≤ w.items.length ∧ Inv1 i H', ⟨w.items.length, by omega, Nat.zero_le _, W1, s1, [], [], Le.fresh hD, e1.upd nF nA (.none hD), nF, nA, upd_same, rfl, key⟩, ?_⟩
  rintro i m H2 ⟨rfl, hi, W2, s2, acc, av, l2, e2, nF2, nA2, hD2, r2, xs, s3, hrun, fin⟩
  have gv := giv W2 H2 s2 l2 e2.st
  -- D is out of the reach of what is evaluated
  have outF : ∀ {W5 : Wd} {H5 : Hp} {s5 : S}, Le W2 H2 s2 W5 H5 s5 → ¬ W5.F D ∧ D ∉ W5.al ∧ H5 D = some (.lst av) := fun {W5 H5 s5} l5 => by
    refine ⟨fun z => ?_, fun z => ?_, l5.ext D _ hD2 (ntl _) fun i hi => absurd (List.mem_of_getElem? hi) nA2⟩
    · rcases l5.nw D z with z | z | z
      · exact nF2 z
      · rw [hD2] at z
        cases z
      · exact nA2 z
    · rcases l5.old z with z | z
      · exact nA2 z
      · rw [hD2] at z
        cases z
  by_cases hlt : i < w.items.length
  · have hd : w.items.drop i = w.items[i] :: w.items.drop (i + 1) := List.drop_eq_getElem_cons hlt
    rw [hd] at hrun
    unfold compRun at hrun
    by_cases hs : w.same s2
    · rw [if_pos hs] at hrun
      obtain ⟨_, h2⟩ := gv hs i
      obtain ⟨go, yl⟩ := h2 _ (List.getElem?_eq_getElem hlt)
      refine .inr ⟨go, fun H' => i + 1 ≤ w.items.length ∧ Inv1 (i + 1) H', fun H' ⟨a, b⟩ => ⟨w.items.length - (i + 1), by omega, rfl, a, b⟩, fun x H3 y => ?_⟩
      obtain ⟨W3, l3, t3, r3⟩ := yl x H3 y
      have e3 := (e2.later l3 t3).wipe vs
      revert hrun
      cases hb : c.bind w.items[i] (wipeE env vs) s2 with
      | none => exact fun z => nomatch z
      | some e4 =>
        intro hrun
        have hrun : ((ft e4 s2).bind fun b s1 => if b = true then (fe e4 s1).bind fun y s2 => if acc.length < sizeLine then compRun c ft fe vs w env (w.items.drop (i + 1)) (acc ++ [y]) s2 else .stuck else compRun c ft fe vs w env (w.items.drop (i + 1)) acc s1) = .ok xs s3 := hrun
        refine CT.take e3 r3 hb hw fun σ4 e4' hw4 => ⟨by rw [hw4, wipe_idem], W3, e4, s2, e4', ?_⟩
        revert hrun
        cases ft e4 s2 with
        | exc _ _ _ => exact fun z => nomatch z
        | stuck => exact fun z => nomatch z
        | ok b s4 =>
          intro hrun
          have hrun : (if b = true then (fe e4 s4).bind fun y s2 => if acc.length < sizeLine then compRun c ft fe vs w env (w.items.drop (i + 1)) (acc ++ [y]) s2 else .stuck else compRun c ft fe vs w env (w.items.drop (i + 1)) acc s4) = .ok xs s3 := hrun
          intro W4 H4 b' l4 e5 hbb
          have hbb : b = b' := hbb
          subst hbb
          have l34 := l3.trans l4
          cases b with
          | false =>
            rw [if_neg Bool.false_ne_true] at hrun ⊢
            obtain ⟨o1, o2, o3⟩ := outF l34
            exact ⟨hlt, W4, s4, acc, av, l2.trans l34, e2.later l34 e5.st, o1, o2, o3, r2.mono l34 e2.st, xs, s3, hrun, fin⟩
          | true =>
            rw [if_pos rfl] at hrun ⊢
            refine ⟨W4, e4, s4, e5, ?_⟩
            revert hrun
            cases fe e4 s4 with
            | exc _ _ _ => exact fun z => nomatch z
            | stuck => exact fun z => nomatch z
            | ok dy s5 =>
              intro hrun
              have hrun : (if acc.length < sizeLine then compRun c ft fe vs w env (w.items.drop (i + 1)) (acc ++ [dy]) s5 else .stuck) = .ok xs s3 := hrun
              by_cases hz : acc.length < sizeLine
              · rw [if_pos hz] at hrun
                intro W5 H5 y l5 e6 r5
                have l35 := l34.trans l5
                obtain ⟨o1, o2, o3⟩ := outF l35
                have ra : RDs C K W5 H5 (acc ++ [dy]) (av ++ [y]) := (r2.mono l35 e2.st).append ⟨y, [], rfl, r5, rfl⟩
                exact ⟨av, o3, by rw [← r2.length]; exact hz, hlt, W5, s5, acc ++ [dy], av ++ [y], (l2.trans l35).over hD, (e2.later l35 e6.st).upd o1 o2 (.of o3 plain_lst), o1, o2, upd_same, ra.lf (Lf.upd o1), xs, s3, hrun, fin⟩
              · rw [if_neg hz] at hrun
                cases hrun
    · rw [if_neg hs] at hrun
      cases hrun
  · have hi' : i = w.items.length := by omega
    subst hi'
    rw [List.drop_length] at hrun
    unfold compRun at hrun
    by_cases hs : w.same s2
    · rw [if_pos hs] at hrun
      cases hrun
      refine .inl ⟨(gv hs _).1 rfl, ?_⟩
      exact fin W2 H2 D av l2 e2 nF2 nA2 hD hD2 r2
    · rw [if_neg hs] at hrun
      cases hrun
/-- a clause's tests -/
def DTs (C : Cfg) (X : Cx) (ifs : List Expr) (f : Tx) : Prop := PTs X ifs (tT C X.K W0 f)
theorem dts_nil : DTs C X [] tAll := ⟨fun pins s σ H Q I h => pts_nil.run pins s σ H Q I (by
  obtain ⟨W, env, s, e, q⟩ := h
  exact Res.here (b := true) q e rfl)⟩
theorem dts_one {t : Expr} (h : DT C X W0 t ft) : DTs C X [t] ft := pts_one h
theorem ne_lc {scope : Scope} {ifs : List Expr} {own : List (Str × Nat)} (hc : X.calm = true) (hN : X.N.Nodup) (hi : DI C X Wx tg iter ix) (ok : BlkOk X.N X.env.scope scope own) (hw : ∀ i ∈ c.slots, i ∈ own.map (·.2))
    (hg : ∀ (s : Shared) (H : Hp) (A : Addr) (cl : List (Str × Addr)) (fp : List Addr), c.ok (X.blk s H scope (compEnvC scope cl A X.env) fp) tg)
    (ht : ∀ (s : Shared) (H : Hp) (A : Addr) (cl : List (Str × Addr)) (fp : List Addr), DTs C (X.blk s H scope (compEnvC scope cl A X.env) fp) ifs ft)
    (he : ∀ (s : Shared) (H : Hp) (A : Addr) (cl : List (Str × Addr)) (fp : List Addr), DE C (X.blk s H scope (compEnvC scope cl A X.env) fp) W0 elt fe) (hs : ∀ x, foldedSetIterable iter X.env x = pure x := by intro _; rfl) :
    NE C X Wx (.ListComp elt [⟨tg, iter, ifs, 0⟩] scope pos) (aComp ix c ft fe (own.map (·.2))) :=
  PE.imp (pe_lc (tt := tT C X.K W0 ft) (te := tD C X.K W0 fe) (g := c.tg X.K) hc hN hi ok (fun s H A cl fp => CT.pg (hg s H A cl fp)) (fun s H A cl fp => ht s H A cl fp) (fun s H A cl fp => he s H A cl fp) hs) (tN_comp hw)
/-- name = [..] on one line; own: whether it is written later -/
theorem ds_setLc {i : Nat} {y : Str} {py spos : Pos} {scope : Scope} {ifs : List Expr} {own : List (Str × Nat)} {fx : Ex} (k : fx = xFz (aComp ix c ft fe (own.map (·.2))) ∨ fx = xOwn (aComp ix c ft fe (own.map (·.2)))) (hc : X.calm = true) (hN : X.N.Nodup) (hy : X.N[i]? = some y) (hyl : X.env.scope.names.lookup y = some .local)
    (hsw : swapsWith (.ListComp elt [⟨tg, iter, ifs, 0⟩] scope pos) (some (.Name y py)) spos.line X.env = pure true) (hi : DI C X Wx tg iter ix) (ok : BlkOk X.N X.env.scope scope own) (hw : ∀ i ∈ c.slots, i ∈ own.map (·.2))
    (hg : ∀ (s : Shared) (H : Hp) (A : Addr) (cl : List (Str × Addr)) (fp : List Addr), c.ok (X.blk s H scope (compEnvC scope cl A X.env) fp) tg)
    (ht : ∀ (s : Shared) (H : Hp) (A : Addr) (cl : List (Str × Addr)) (fp : List Addr), DTs C (X.blk s H scope (compEnvC scope cl A X.env) fp) ifs ft)
    (he : ∀ (s : Shared) (H : Hp) (A : Addr) (cl : List (Str × Addr)) (fp : List Addr), DE C (X.blk s H scope (compEnvC scope cl A X.env) fp) W0 elt fe) (hs : ∀ x, foldedSetIterable iter X.env x = pure x := by intro _; rfl) :
    DS C X Wx (.Assign [.Name y py] (.ListComp elt [⟨tg, iter, ifs, 0⟩] scope pos) spos) (sAsg fx (gVar i)) :=
  PS.imp (ps_setLc (tt := tT C X.K W0 ft) (te := tD C X.K W0 fe) (g := c.tg X.K) hc hN hy hyl hsw hi ok (fun s H A cl fp => CT.pg (hg s H A cl fp)) (fun s H A cl fp => ht s H A cl fp) (fun s H A cl fp => he s H A cl fp) hs) fun En σ H h => by
    obtain ⟨W, env, s, e, q⟩ := h
    refine tN_comp hw σ H _ ⟨W, env, s, e, ?_⟩
    revert q
    rcases k with rfl | rfl
    · unfold sAsg xFz
      cases aComp ix c ft fe (own.map (·.2)) env s with
      | ok ds s' =>
        intro q W' H' p vs l e1 n1 n2 hp h1 r
        have lf : Lf W' H' (W'.add p) H' := ⟨fun _ h => .inl h, fun _ _ h => h, fun _ _ h => h, fun _ _ _ h => h⟩
        have e2 := e1.addF (p := p) (by rw [h1]; exact fun z => nomatch z) (fun o z => by rw [h1] at z; cases z; exact fun _ z => nomatch z) n2
        have r2 : RD C X.K (W'.add p) H' (.lst ds) (.ref p) := ⟨p, vs, rfl, .inr rfl, h1, r.lf lf⟩
        exact q _ _ _ (l.addF hp) (e2.set i r2)
      | exc c vs s' => exact fun q W' H' => q W' σ H'
      | stuck => exact fun q => q
    · unfold sAsg xOwn
      cases aComp ix c ft fe (own.map (·.2)) env s with
      | ok ds s' =>
        intro q W' H' p vs l e1 n1 n2 hp h1 r
        have q : ResS C X.K Wx En W H s ((if D.lows 0 0 ds = true then Out.ok (D.ref s'.mo.length) (s'.own (.lst ds)) else .stuck).fl env fun d s => match gVar i d env s with
          | .ok e' s' => .next e' s'
          | _ => .stuck) := q
        by_cases hz : D.lows 0 0 ds = true
        · rw [if_pos hz] at q
          have e2 := e1.own (o := .lst ds) (by rw [h1]; exact fun z => nomatch z) n1 n2 ⟨vs, h1, r.lf Lf.own, hz⟩
          have r2 : RD C X.K (W'.own p) H' (.ref s'.mo.length) (.ref p) := ⟨p, by
            show (W'.al ++ [p])[s'.mo.length]? = some p
            rw [← e1.st.len, List.getElem?_append_right (Nat.le_refl _), Nat.sub_self]
            rfl, rfl⟩
          exact q _ _ _ (l.own e1.st.len hp) (e2.set i r2)
        · rw [if_neg hz] at q
          exact q.elim
      | exc c vs s' => exact fun q W' H' => q W' σ H'
      | stuck => exact fun q => q
theorem ct_one {i : Nat} {x : Str} (h : PG X (.Name x pos) (gName i)) : (CT.one i).ok X (.Name x pos) := h
theorem ct_many {is : List Nat} {es : List Expr} {k : Nat} (hc : X.calm = true) (h : PGs X es (gsN is)) (hn : (assignEach es X.env).length = is.length := by rfl) (hst : (assignEach es X.env).findIdx? (·.1) = none := by rfl) : (CT.many is).ok X (.Tuple es k pos) :=
  ⟨pg_tup hc h hn hst, pg_lst hc h hn hst⟩
end
end DV
end
section
set_option Elab.async false
set_option linter.all false
set_option maxRecDepth 100000
/-! DO: the operators over data. -/
namespace DV
open PySem PySem.Spec PyProof.Rows L2

theorem OpR.imp {X : Cx} {f : Value → Value → Sem Value} {r r' : R2} (h : OpR X f r) (i : ∀ x y H Q, r' x y H Q → r x y H Q) : OpR X f r' := fun pins s σ H x y v u Q I rx ry q => h pins s σ H x y v u Q I rx ry (i _ _ _ _ q)
theorem UnR.imp {X : Cx} {f : Value → Sem Value} {r r' : V → Hp → VK → Prop} (h : UnR X f r) (i : ∀ x H Q, r' x H Q → r x H Q) : UnR X f r' := fun pins s σ H x v Q I rx q => h pins s σ H x v Q I rx (i _ _ _ q)
theorem CallR.imp {X : Cx} {f : Value} {r r' : List V → Hp → VK → Prop} (h : CallR X f r) (i : ∀ x H Q, r' x H Q → r x H Q) : CallR X f r' := fun pins s σ H x v Q I rx q => h pins s σ H x v Q I rx (i _ _ _ q)
theorem CallR.or {X : Cx} {f : Value} {r r' : List V → Hp → VK → Prop} (h : CallR X f r) (h' : CallR X f r') : CallR X f (fun x H Q => r x H Q ∨ r' x H Q) := fun pins s σ H x v Q I rx q => by
  rcases q with q | q
  · exact h pins s σ H x v Q I rx q
  · exact h' pins s σ H x v Q I rx q
theorem PE.or {X : Cx} {e : Expr} {t t' : TE} (h : PE X e t) (h' : PE X e t') : PE X e (fun σ H Q => t σ H Q ∨ t' σ H Q) := ⟨fun pins s σ H Q I q => by
  rcases q with q | q
  · exact h.run pins s σ H Q I q
  · exact h'.run pins s σ H Q I q⟩

section
variable {C : Cfg} {K : PySem.W.Frag} {W : Wd} {H : Hp} {s : S}
/-- what is wanted of a new list -/
theorem new_lst {xs : List D} {vs : List V} {Q : VK} (t : StS C K W H s) (r : RDs C K W H xs vs) (q : ∀ W' H' v, Le W H s W' H' s → StS C K W' H' s → RD C K W' H' (.lst xs) v → Q v H') : ∀ p, H p = none → Q (.ref p) (upd H p (.lst vs)) := fun p hp => by
  have l : Le W H s (W.add p) (L2.upd H p (.lst vs)) s := Le.laid t hp
  exact q _ _ _ l (t.laid hp fun _ z => nomatch z) ⟨p, vs, rfl, .inr rfl, upd_same, r.mono l t⟩
theorem new_tup {xs : List D} {vs : List V} {Q : VK} (t : StS C K W H s) (r : RDs C K W H xs vs) (q : ∀ W' H' v, Le W H s W' H' s → StS C K W' H' s → RD C K W' H' (.tup xs) v → Q v H') : ∀ p, H p = none → Q (.ref p) (upd H p (.tup vs)) := fun p hp => by
  have l : Le W H s (W.add p) (L2.upd H p (.tup vs)) s := Le.laid t hp
  exact q _ _ _ l (t.laid hp fun _ z => nomatch z) ⟨p, vs, rfl, .inr rfl, upd_same, r.mono l t⟩
/-- what is wanted of a value that changes nothing -/
theorem same_q {d : D} {v : V} {Q : VK} (t : StS C K W H s) (q : ∀ W' H' v, Le W H s W' H' s → StS C K W' H' s → RD C K W' H' d v → Q v H') (r : RD C K W H d v) : Q v H := q W H v Le.refl t r
theorem view_tup {d : D} {xs : List D} (h : view s d = .tup xs) : d.strip = .tup xs := by
  unfold view at h
  split at h
  · split at h <;> cases h
  · exact h
theorem view_kl {d : D} {xs : List D} (h : view s d = .kl xs) : d.strip = .kl xs := by
  unfold view at h
  split at h
  · split at h <;> cases h
  · exact h
theorem RDs.nil_iff {xs : List D} {vs : List V} (r : RDs C K W H xs vs) : vs = [] ↔ xs = [] := by
  cases xs with
  | nil => exact ⟨fun _ => rfl, fun _ => r⟩
  | cons d ds =>
    obtain ⟨v, rs, e, _⟩ := r
    rw [e]
    exact ⟨(fun z => nomatch z), (fun z => nomatch z)⟩
end

/-! ### + - * // % ** and bits -/
def addD : D → D → Option D
  | .int i, .int j => some (.int (i + j))
  | .str x, .str y => if x.length + y.length ≤ sizeLine then some (.str (x ++ y)) else none
  | .lst xs, .lst ys => if xs.length + ys.length ≤ sizeLine then some (.lst (xs ++ ys)) else none
  | .tup xs, .tup ys => if xs.length + ys.length ≤ sizeLine then some (.tup (xs ++ ys)) else none
  | _, _ => none
def gAdd (s : S) (a b : D) : Option D := addD (view s a) (view s b)
def intD (g : Int → Int → Option D) : D → D → Option D
  | .int i, .int j => g i j
  | _, _ => none
def gInt (g : Int → Int → Option D) (s : S) (a b : D) : Option D := intD g (view s a) (view s b)
theorem intD_inv {g : Int → Int → Option D} {a b z : D} (h : intD g a b = some z) : ∃ i j, a = .int i ∧ b = .int j ∧ g i j = some z := by
  unfold intD at h
  split at h
  · exact ⟨_, _, rfl, rfl, h⟩
  · cases h
section
variable {C : Cfg} {X : Cx}
theorem o_int {f : Value → Value → Sem Value} {P : Int → Int → Prop} {k : Int → Int → V} {g : Int → Int → Option D} (ho : OpR X f (rI P k)) (hg : ∀ i j z, g i j = some z → P i j ∧ ∀ W H, RD C X.K W H z (k i j)) : OpR X f (r2 C X.K (gInt g)) :=
  OpR.imp ho fun x y H Q h => by
    obtain ⟨W, s, d, e, t, hd, he, q⟩ := h
    have sd := see_of t hd
    have se := see_of t he
    unfold gInt at q
    cases hz : intD g (view s d) (view s e) with
    | none =>
      rw [hz] at q
      exact q.elim
    | some z =>
      rw [hz] at q
      obtain ⟨i, j, e1, e2, e3⟩ := intD_inv hz
      rw [e1] at sd
      rw [e2] at se
      obtain ⟨c, r⟩ := hg i j z e3
      exact ⟨i, j, sd, se, c, same_q t q (r W H)⟩
theorem o_int0 {f : Value → Value → Sem Value} {k : Int → Int → V} {g : Int → Int → Option D} (ho : OpR X f (rI0 k)) (hg : ∀ i j z, g i j = some z → ∀ W H, RD C X.K W H z (k i j)) : OpR X f (r2 C X.K (gInt g)) :=
  o_int (P := fun _ _ => True) (k := k) (OpR.imp ho fun x y H Q ⟨i, j, a, b, _, q⟩ => ⟨i, j, a, b, q⟩) fun i j z e => ⟨trivial, hg i j z e⟩
end
def nSub (i j : Int) : Option D := some (.int (i - j))
/-- * of two factors of together less than a hundred million bits -/
def CMulV (i j : Int) : Prop := i.natAbs.log2 + j.natAbs.log2 < 100000000
theorem CMulV.ok {i j : Int} (h : CMulV i j) : IntMulOk i j := by
  have b : ∀ x : Int, Builtin.Int.intBits x ≤ x.natAbs.log2 + 1 := fun x => by
    unfold Builtin.Int.intBits
    split <;> omega
  have h1 := b i
  have h2 := b j
  have h3 : i.natAbs.log2 + j.natAbs.log2 < 100000000 := h
  have e : bitsLine = 134217728 := by decide
  unfold IntMulOk
  intro z
  rw [Bool.and_eq_true] at z
  have z2 := z.2
  unfold Builtin.Int.intTooBig at z2
  have z3 := of_decide_eq_true z2
  rw [e] at z3
  omega
theorem op_mulV {X : Cx} : OpR X (binaryOp .Mult) (rI CMulV fun i j => .int (i * j)) := opI fun _ _ _ _ _ _ _ hc q => mul_int q (CMulV.ok hc)
def nMul (i j : Int) : Option D := if i.natAbs.log2 + j.natAbs.log2 < 100000000 then some (.int (i * j)) else none
def nDiv (i j : Int) : Option D := if j ≠ 0 ∧ j.natAbs.log2 < 9000 then some (.int (i.fdiv j)) else none
def nMod (i j : Int) : Option D := if j ≠ 0 then some (.int (i.fmod j)) else none
def nPow (i j : Int) : Option D := if 0 ≤ j ∧ j ≤ 1000000 ∧ i.natAbs < 2 ^ 64 then some (.int (i ^ j.toNat)) else none
def nShl (i j : Int) : Option D := if 0 ≤ j ∧ j ≤ 1000000 ∧ i.natAbs < 2 ^ 64 then some (.int (i * 2 ^ j.toNat)) else none
def nShr (i j : Int) : Option D := if 0 ≤ j then some (.int (i / 2 ^ j.toNat)) else none
def nAnd (i j : Int) : Option D := some (.int (Builtin.bitAnd i j))
def nOr (i j : Int) : Option D := some (.int (Builtin.bitOr i j))
def nXor (i j : Int) : Option D := some (.int (Builtin.bitXor i j))
section
variable {C : Cfg} {X : Cx}
theorem op_fdivB : OpR X (binaryOp .FloorDiv) (rI (fun _ j => j ≠ 0 ∧ j.natAbs.log2 < 9000) fun i j => .int (i.fdiv j)) := opI fun i j _ _ _ _ _ hc q => floordiv_int hc.1 q (.inl (PyProof.noPylong_of_log2 hc.2))
theorem o_sub : OpR X (binaryOp .Sub) (r2 C X.K (gInt nSub)) := o_int0 op_sub fun i j z e => by cases e; exact fun _ _ => rfl
theorem o_div : OpR X (binaryOp .FloorDiv) (r2 C X.K (gInt nDiv)) := o_int op_fdivB fun i j z e => by
  unfold nDiv at e
  split at e
  · rename_i h
    cases e
    exact ⟨h, fun _ _ => rfl⟩
  · cases e
theorem o_mod : OpR X (binaryOp .Mod) (r2 C X.K (gInt nMod)) := o_int op_modN fun i j z e => by
  unfold nMod at e
  split at e
  · rename_i h
    cases e
    exact ⟨h, fun _ _ => rfl⟩
  · cases e
theorem o_pow : OpR X (binaryOp .Pow) (r2 C X.K (gInt nPow)) := o_int op_pow fun i j z e => by
  unfold nPow at e
  split at e
  · rename_i h
    cases e
    exact ⟨h, fun _ _ => rfl⟩
  · cases e
theorem o_shl : OpR X (binaryOp .LShift) (r2 C X.K (gInt nShl)) := o_int op_shl fun i j z e => by
  unfold nShl at e
  split at e
  · rename_i h
    cases e
    exact ⟨h, fun _ _ => rfl⟩
  · cases e
theorem o_shr : OpR X (binaryOp .RShift) (r2 C X.K (gInt nShr)) := o_int op_shr fun i j z e => by
  unfold nShr at e
  split at e
  · rename_i h
    cases e
    exact ⟨h, fun _ _ => rfl⟩
  · cases e
theorem o_and : OpR X (binaryOp .BitAnd) (r2 C X.K (gInt nAnd)) := o_int0 op_and fun i j z e => by cases e; exact fun _ _ => rfl
theorem o_or : OpR X (binaryOp .BitOr) (r2 C X.K (gInt nOr)) := o_int0 op_or fun i j z e => by cases e; exact fun _ _ => rfl
theorem o_xor : OpR X (binaryOp .BitXor) (r2 C X.K (gInt nXor)) := o_int0 op_xor fun i j z e => by cases e; exact fun _ _ => rfl
theorem addD_inv {a b z : D} (h : addD a b = some z) : (∃ i j, a = .int i ∧ b = .int j ∧ z = .int (i + j)) ∨ (∃ x y, a = .str x ∧ b = .str y ∧ x.length + y.length ≤ sizeLine ∧ z = .str (x ++ y)) ∨
    (∃ xs ys, a = .lst xs ∧ b = .lst ys ∧ xs.length + ys.length ≤ sizeLine ∧ z = .lst (xs ++ ys)) ∨ (∃ xs ys, a = .tup xs ∧ b = .tup ys ∧ xs.length + ys.length ≤ sizeLine ∧ z = .tup (xs ++ ys)) := by
  unfold addD at h
  split at h
  · cases h
    exact .inl ⟨_, _, rfl, rfl, rfl⟩
  · split at h
    · rename_i hl
      cases h
      exact .inr (.inl ⟨_, _, rfl, rfl, hl, rfl⟩)
    · cases h
  · split at h
    · rename_i hl
      cases h
      exact .inr (.inr (.inl ⟨_, _, rfl, rfl, hl, rfl⟩))
    · cases h
  · split at h
    · rename_i hl
      cases h
      exact .inr (.inr (.inr ⟨_, _, rfl, rfl, hl, rfl⟩))
    · cases h
  · cases h
theorem o_add : OpR X (binaryOp .Add) (r2 C X.K gAdd) := OpR.imp (op_add.or (op_add_str.or (op_cat.or op_catA))) fun x y H Q h => by
  obtain ⟨W, s, d, e, t, hd, he, q⟩ := h
  have sd := see_of t hd
  have se := see_of t he
  unfold gAdd at q
  cases hz : addD (view s d) (view s e) with
  | none =>
    rw [hz] at q
    exact q.elim
  | some z =>
    rw [hz] at q
    rcases addD_inv hz with ⟨i, j, e1, e2, rfl⟩ | ⟨i, j, e1, e2, hl, rfl⟩ | ⟨xs, ys, e1, e2, hl, rfl⟩ | ⟨xs, ys, e1, e2, hl, rfl⟩
    · rw [e1] at sd
      rw [e2] at se
      exact .inl ⟨i, j, sd, se, same_q t q rfl⟩
    · rw [e1] at sd
      rw [e2] at se
      exact .inr (.inl ⟨i, j, sd, se, hl, same_q t q rfl⟩)
    · rw [e1] at sd
      rw [e2] at se
      obtain ⟨a, vs, rfl, g1, r1⟩ := sd
      obtain ⟨b, ws, rfl, g2, r2⟩ := se
      exact .inr (.inr (.inl ⟨a, b, vs, ws, rfl, rfl, g1, g2, by rw [← r1.length, ← r2.length]; exact hl, new_lst t (r1.append r2) q⟩))
    · have hd' := hd.strip
      have he' := he.strip
      rw [view_tup e1] at hd'
      rw [view_tup e2] at he'
      obtain ⟨a, vs, rfl, _, g1, r1⟩ := id hd'
      obtain ⟨b, ws, rfl, _, g2, r2⟩ := id he'
      refine .inr (.inr (.inr ⟨a, b, vs, ws, rfl, rfl, SqT.of g1, SqT.of g2, by rw [← r1.length, ← r2.length]; exact hl, fun z => ?_, fun _ z => ?_, fun _ _ => new_tup t (r1.append r2) q⟩))
      · have e3 := r1.nil_iff.mp z
        subst e3
        exact same_q t q he'
      · have e3 := r2.nil_iff.mp z
        subst e3
        rw [List.append_nil] at q
        exact same_q t q hd'
/-- ints, or a list so many times -/
def mulD : D → D → Option D
  | .int i, .int j => nMul i j
  | .lst xs, .int k => if -(2 ^ 63) ≤ k ∧ k < 2 ^ 63 ∧ xs.length * k.toNat ≤ sizeLine then some (.lst (List.replicate k.toNat xs).flatten) else none
  | _, _ => none
def gMul (s : S) (a b : D) : Option D := mulD (view s a) (view s b)
theorem mulD_inv {a b z : D} (h : mulD a b = some z) : (∃ i j, a = .int i ∧ b = .int j ∧ CMulV i j ∧ z = .int (i * j)) ∨
    (∃ xs k, a = .lst xs ∧ b = .int k ∧ (-(2 ^ 63) ≤ k ∧ k < 2 ^ 63 ∧ xs.length * k.toNat ≤ sizeLine) ∧ z = .lst (List.replicate k.toNat xs).flatten) := by
  unfold mulD at h
  split at h
  · unfold nMul at h
    split at h
    · rename_i hl
      cases h
      exact .inl ⟨_, _, rfl, rfl, hl, rfl⟩
    · cases h
  · split at h
    · rename_i hl
      cases h
      exact .inr ⟨_, _, rfl, rfl, hl, rfl⟩
    · cases h
  · cases h
theorem RDs.rep {K : PySem.W.Frag} {W : Wd} {H : Hp} {xs : List D} {vs : List V} (r : RDs C K W H xs vs) : ∀ n : Nat, RDs C K W H (List.replicate n xs).flatten (List.replicate n vs).flatten
  | 0 => rfl
  | n + 1 => by
    rw [List.replicate_succ, List.replicate_succ, List.flatten_cons, List.flatten_cons]
    exact r.append (RDs.rep r n)
theorem o_mul : OpR X (binaryOp .Mult) (r2 C X.K gMul) := OpR.imp (op_mulV.or op_rep) fun x y H Q h => by
  obtain ⟨W, s, d, e, t, hd, he, q⟩ := h
  have sd := see_of t hd
  have se := see_of t he
  unfold gMul at q
  cases hz : mulD (view s d) (view s e) with
  | none =>
    rw [hz] at q
    exact q.elim
  | some z =>
    rw [hz] at q
    rcases mulD_inv hz with ⟨i, j, e1, e2, hl, rfl⟩ | ⟨xs, k, e1, e2, ⟨h1, h2, h3⟩, rfl⟩
    · rw [e1] at sd
      rw [e2] at se
      exact .inl ⟨i, j, sd, se, hl, same_q t q rfl⟩
    · rw [e1] at sd
      rw [e2] at se
      obtain ⟨a, vs, rfl, g1, r1⟩ := sd
      exact .inr ⟨a, k, vs, rfl, se, g1, h1, h2, by rw [← r1.length]; exact h3, new_lst t (r1.rep _) q⟩
/-- - of an int -/
def gNeg (s : S) (a : D) : Option D := match view s a with
  | .int i => some (.int (-i))
  | _ => none
theorem o_neg : UnR X (unaryOp .USub) (r1 C X.K gNeg) := UnR.imp un_neg fun x H Q h => by
  obtain ⟨W, s, d, t, hd, q⟩ := h
  have sd := see_of t hd
  unfold gNeg at q
  cases hv : view s d with
  | int i =>
    rw [hv] at q sd
    exact ⟨i, sd, same_q t q rfl⟩
  | _ =>
    rw [hv] at q
    exact q.elim

/-! ### comparisons -/
def cI (p : Int → Int → Bool) (q : Str → Str → Bool) : D → D → Option D
  | .int i, .int j => some (.bl (p i j))
  | .str x, .str y => some (.bl (q x y))
  | _, _ => none
def gLt (s : S) (a b : D) : Option D := cI (fun i j => decide (i < j)) (fun x y => decide (x.cps.toList < y.cps.toList)) (view s a) (view s b)
def gLe (s : S) (a b : D) : Option D := intD (fun i j => some (.bl (decide (i ≤ j)))) (view s a) (view s b)
def gGt (s : S) (a b : D) : Option D := intD (fun i j => some (.bl (decide (j < i)))) (view s a) (view s b)
def gGe (s : S) (a b : D) : Option D := intD (fun i j => some (.bl (decide (j ≤ i)))) (view s a) (view s b)
theorem o_lt : OpR X (compareOp .Lt) (r2 C X.K gLt) := OpR.imp (op_lt.or op_lt_str) fun x y H Q h => by
  obtain ⟨W, s, d, e, t, hd, he, q⟩ := h
  have sd := see_of t hd
  have se := see_of t he
  unfold gLt at q
  cases hv : view s d with
  | int i =>
    cases hw : view s e with
    | int j =>
      rw [hv] at q sd
      rw [hw] at q se
      exact .inl ⟨i, j, sd, se, same_q t q rfl⟩
    | _ =>
      rw [hv, hw] at q
      exact q.elim
  | str i =>
    cases hw : view s e with
    | str j =>
      rw [hv] at q sd
      rw [hw] at q se
      exact .inr ⟨i, j, sd, se, same_q t q rfl⟩
    | _ =>
      rw [hv, hw] at q
      exact q.elim
  | _ =>
    rw [hv] at q
    exact q.elim
theorem o_le : OpR X (compareOp .LtE) (r2 C X.K gLe) := o_int0 op_le fun i j z e => by cases e; exact fun _ _ => rfl
theorem o_gt : OpR X (compareOp .Gt) (r2 C X.K gGt) := o_int0 op_gt fun i j z e => by cases e; exact fun _ _ => rfl
theorem o_ge : OpR X (compareOp .GtE) (r2 C X.K gGe) := o_int0 op_ge fun i j z e => by cases e; exact fun _ _ => rfl
/-! == and != of plain data -/
mutual
theorem dp_of {K : PySem.W.Frag} {W : Wd} {H : Hp} : ∀ {d : D} {v : V} {p : PyData}, RD C K W H d v → d.pd = some p → Dp K H v p
  | .non, v, p, r, h => by
    have e : v = .non := r
    subst e
    cases h
    exact .non
  | .bl b, v, p, r, h => by
    have e : v = .bl b := r
    subst e
    cases h
    exact .bl b
  | .int i, v, p, r, h => by
    have e : v = .int i := r
    subst e
    cases h
    exact .int i
  | .str x, v, p, r, h => by
    have e : v = .str x := r
    subst e
    cases h
    exact .str x
  | .lst xs, v, p, r, h => by
    obtain ⟨a, vs, rfl, _, l, q⟩ := r
    unfold D.pd at h
    cases hx : D.pds xs with
    | none =>
      rw [hx] at h
      cases h
    | some ps =>
      rw [hx] at h
      cases h
      exact .lst (SqL.of l) (dps_of q hx)
  | .tup xs, v, p, r, h => by
    obtain ⟨a, vs, rfl, _, l, q⟩ := r
    unfold D.pd at h
    cases hx : D.pds xs with
    | none =>
      rw [hx] at h
      cases h
    | some ps =>
      rw [hx] at h
      cases h
      exact .tup (SqT.of l) (dps_of q hx)
  | .tag i d, v, p, r, h => dp_of (d := d) r.2 h
  | .dct _ _, _, _, _, h => nomatch h
  | .ref _, _, _, _, h => nomatch h
  | .inst _ _, _, _, _, h => nomatch h
  | .fn _, _, _, _, h => nomatch h
  | .exn _ _, _, _, _, h => nomatch h
  | .lam _ _, _, _, _, h => nomatch h
  | .scr _, _, _, _, h => nomatch h
  | .kl _, _, _, _, h => nomatch h
theorem dps_of {K : PySem.W.Frag} {W : Wd} {H : Hp} : ∀ {ds : List D} {vs : List V} {ps : List PyData}, RDs C K W H ds vs → D.pds ds = some ps → DpAll K H vs ps
  | [], vs, ps, r, h => by
    have e : vs = [] := r
    subst e
    cases h
    exact .nil
  | d :: ds, vs, ps, r, h => by
    obtain ⟨v, rs, rfl, h1, h2⟩ := r
    unfold D.pds at h
    cases ha : d.pd with
    | none =>
      rw [ha] at h
      cases h
    | some a =>
      cases hb : D.pds ds with
      | none =>
        rw [ha, hb] at h
        cases h
      | some b =>
        rw [ha, hb] at h
        cases h
        exact .cons (dp_of h1 ha) (dps_of h2 hb)
end
theorem dp_see {K : PySem.W.Frag} {W : Wd} {H : Hp} {d : D} {v : V} {p : PyData} (r : See C K W H d v) (h : d.pd = some p) : Dp K H v p := by
  cases d with
  | lst xs =>
    obtain ⟨a, vs, rfl, l, q⟩ := r
    unfold D.pd at h
    cases hx : D.pds xs with
    | none =>
      rw [hx] at h
      cases h
    | some ps =>
      rw [hx] at h
      cases h
      exact .lst (SqL.of l) (dps_of q hx)
  | tup xs =>
    obtain ⟨a, vs, rfl, l, q⟩ := r
    unfold D.pd at h
    cases hx : D.pds xs with
    | none =>
      rw [hx] at h
      cases h
    | some ps =>
      rw [hx] at h
      cases h
      exact .tup (SqT.of l) (dps_of q hx)
  | non => exact dp_of (C := C) (W := W) r h
  | bl _ => exact dp_of (C := C) (W := W) r h
  | int _ => exact dp_of (C := C) (W := W) r h
  | str _ => exact dp_of (C := C) (W := W) r h
  | tag _ _ => exact dp_of (C := C) (W := W) r h
  | _ => cases h
/-- as shaped data -/
def D.pdS (d : D) : Option PyData := match d.pd with
  | some p => if SeqAt.shaped p = true then some p else none
  | none => none
theorem pdS_inv {d : D} {p : PyData} (h : d.pdS = some p) : d.pd = some p ∧ SeqAt.shaped p = true := by
  unfold D.pdS at h
  split at h
  · split at h
    · rename_i q hq hs
      cases h
      exact ⟨hq, hs⟩
    · cases h
  · cases h
/-- texts, ints: by themselves; other data by the library's equality -/
def eqD : D → D → Option Bool
  | .int i, .int j => some (decide (i = j))
  | .str x, .str y => some (decide (x = y))
  | a, b => match a.pdS, b.pdS with
    | some p, some q => some (PyData.eqv p q)
    | _, _ => none
def gEq (s : S) (a b : D) : Option D := match eqD (view s a) (view s b) with
  | some k => some (.bl k)
  | none => none
def gNe (s : S) (a b : D) : Option D := match eqD (view s a) (view s b) with
  | some k => some (.bl (!k))
  | none => none
theorem eqD_inv {a b : D} {k : Bool} (h : eqD a b = some k) : (∃ i j, a = .int i ∧ b = .int j ∧ k = decide (i = j)) ∨ (∃ x y, a = .str x ∧ b = .str y ∧ k = decide (x = y)) ∨ (∃ p q, a.pdS = some p ∧ b.pdS = some q ∧ k = PyData.eqv p q) := by
  unfold eqD at h
  split at h
  · cases h
    exact .inl ⟨_, _, rfl, rfl, rfl⟩
  · cases h
    exact .inr (.inl ⟨_, _, rfl, rfl, rfl⟩)
  · split at h
    · rename_i p q hp hq
      cases h
      exact .inr (.inr ⟨p, q, hp, hq, rfl⟩)
    · cases h
theorem dI {i j : Int} : decide (V.int i = V.int j) = decide (i = j) := by
  rw [dec_int]
  exact Bool.beq_eq_decide_eq i j
theorem dS {i j : Str} : decide (V.str i = V.str j) = decide (i = j) := by
  by_cases e : i = j
  · rw [decide_eq_true e, decide_eq_true (by rw [e])]
  · rw [decide_eq_false e, decide_eq_false fun z => e (V.str.inj z)]
theorem o_eq (hu : X.A.units + 64 < cLine) : OpR X (compareOp .Eq) (r2 C X.K gEq) := OpR.imp (op_eq.or (op_eqD hu)) fun x y H Q h => by
  obtain ⟨W, s, d, e, t, hd, he, q⟩ := h
  have sd := see_of t hd
  have se := see_of t he
  unfold gEq at q
  cases hz : eqD (view s d) (view s e) with
  | none =>
    rw [hz] at q
    exact q.elim
  | some k =>
    rw [hz] at q
    rcases eqD_inv hz with ⟨i, j, e1, e2, rfl⟩ | ⟨i, j, e1, e2, rfl⟩ | ⟨p, r, e1, e2, rfl⟩
    · rw [e1] at sd
      rw [e2] at se
      have h1 : x = .int i := sd
      have h2 : y = .int j := se
      subst h1 h2
      exact .inl ⟨rfl, by rw [dI]; exact same_q t q rfl⟩
    · rw [e1] at sd
      rw [e2] at se
      have h1 : x = .str i := sd
      have h2 : y = .str j := se
      subst h1 h2
      exact .inl ⟨rfl, by rw [dS]; exact same_q t q rfl⟩
    · obtain ⟨a1, a2⟩ := pdS_inv e1
      obtain ⟨b1, b2⟩ := pdS_inv e2
      exact .inr ⟨p, r, dp_see sd a1, dp_see se b1, a2, b2, same_q t q rfl⟩
theorem o_ne (hu : X.A.units + 64 < cLine) : OpR X (compareOp .NotEq) (r2 C X.K gNe) := OpR.imp (op_ne.or (op_neD hu)) fun x y H Q h => by
  obtain ⟨W, s, d, e, t, hd, he, q⟩ := h
  have sd := see_of t hd
  have se := see_of t he
  unfold gNe at q
  cases hz : eqD (view s d) (view s e) with
  | none =>
    rw [hz] at q
    exact q.elim
  | some k =>
    rw [hz] at q
    rcases eqD_inv hz with ⟨i, j, e1, e2, rfl⟩ | ⟨i, j, e1, e2, rfl⟩ | ⟨p, r, e1, e2, rfl⟩
    · rw [e1] at sd
      rw [e2] at se
      have h1 : x = .int i := sd
      have h2 : y = .int j := se
      subst h1 h2
      exact .inl ⟨rfl, by rw [dI]; exact same_q t q rfl⟩
    · rw [e1] at sd
      rw [e2] at se
      have h1 : x = .str i := sd
      have h2 : y = .str j := se
      subst h1 h2
      exact .inl ⟨rfl, by rw [dS]; exact same_q t q rfl⟩
    · obtain ⟨a1, a2⟩ := pdS_inv e1
      obtain ⟨b1, b2⟩ := pdS_inv e2
      exact .inr ⟨p, r, dp_see sd a1, dp_see se b1, a2, b2, same_q t q rfl⟩
end
end DV
end
section
set_option Elab.async false
set_option linter.all false
set_option maxRecDepth 100000
/-! DP: parts of values over data: in, [], slices, len, list, tuple, sorted, isinstance .. -/
namespace DV
open PySem PySem.Spec PyProof.Rows L2

/-! ### what is never reached -/
def xStuck : Ex := fun _ _ => .stuck
def tStuck : Tx := fun _ _ => .stuck
def sStuck : Sx := fun _ _ => .stuck
section
variable {C : Cfg} {X : Cx} {Wx : WX}
theorem de_stuck {e : Expr} : DE C X Wx e xStuck := ⟨fun _ _ _ _ _ _ h => by
  obtain ⟨W, env, s, e, q⟩ := h
  exact q.elim⟩
theorem dt_stuck {e : Expr} : DT C X Wx e tStuck := ⟨fun _ _ _ _ _ _ h => by
  obtain ⟨W, env, s, e, q⟩ := h
  exact q.elim⟩
theorem ds_stuck {st : Stmt} : DS C X Wx st sStuck := ⟨fun _ _ _ _ _ _ h => by
  obtain ⟨W, env, s, e, q⟩ := h
  exact q.elim⟩
theorem dss_stuck {st : List Stmt} : DSs C X Wx st sStuck := ⟨fun _ _ _ _ _ _ h => by
  obtain ⟨W, env, s, e, q⟩ := h
  exact q.elim⟩
end

/-! ### items of lists and tuples as they are seen -/
def seqD : D → Option (List D)
  | .lst xs => some xs
  | .tup xs => some xs
  | .scr ns => some (ns.map .int)
  | .kl xs => some xs
  | _ => none
def lstD : D → Option (List D)
  | .lst xs => some xs
  | .scr ns => some (ns.map .int)
  | .kl xs => some xs
  | _ => none
theorem rds_ints {C : Cfg} {K : PySem.W.Frag} {W : Wd} {H : Hp} : ∀ ns : List Int, RDs C K W H (ns.map .int) (ns.map V.int)
  | [] => rfl
  | n :: ns => ⟨.int n, ns.map V.int, rfl, rfl, rds_ints ns⟩
section
variable {C : Cfg} {K : PySem.W.Frag} {W : Wd} {H : Hp}
theorem lst_of {d : D} {v : V} {xs : List D} (r : See C K W H d v) (h : lstD d = some xs) : ∃ a vs, v = .ref a ∧ SqL K H a vs ∧ RDs C K W H xs vs := by
  unfold lstD at h
  split at h
  · cases h
    obtain ⟨a, vs, e, l, q⟩ := r
    exact ⟨a, vs, e, SqL.of l, q⟩
  · cases h
    obtain ⟨a, e, f, l⟩ := r
    exact ⟨a, _, e, .inl l, rds_ints _⟩
  · cases h
    obtain ⟨a, vs, e, l, q⟩ := r
    exact ⟨a, vs, e, .inr l, q⟩
  · cases h
theorem seq_of {d : D} {v : V} {xs : List D} (r : See C K W H d v) (h : seqD d = some xs) : ∃ a vs, v = .ref a ∧ (SqL K H a vs ∨ SqT K H a vs) ∧ RDs C K W H xs vs := by
  cases d with
  | lst _ => obtain ⟨a, vs, e, l, q⟩ := lst_of r (xs := xs) h; exact ⟨a, vs, e, .inl l, q⟩
  | scr _ => obtain ⟨a, vs, e, l, q⟩ := lst_of r (xs := xs) h; exact ⟨a, vs, e, .inl l, q⟩
  | kl _ => obtain ⟨a, vs, e, l, q⟩ := lst_of r (xs := xs) h; exact ⟨a, vs, e, .inl l, q⟩
  | tup _ =>
    cases h
    obtain ⟨a, vs, e, l, q⟩ := r
    exact ⟨a, vs, e, .inr (SqT.of l), q⟩
  | _ => cases h
end

/-! ### is -/
theorem non_iff {C : Cfg} {K : PySem.W.Frag} {W : Wd} {H : Hp} {d : D} {v : V} (r : RD C K W H d v) : decide (v = .non) = (match d.strip with
    | .non => true
    | _ => false) := by
  have r2 := r.strip
  have e := strip_strip d
  generalize d.strip = d0 at r2 e
  cases d0 with
  | non => exact decide_eq_true r2
  | bl b => rw [show v = .bl b from r2]; rfl
  | int b => rw [show v = .int b from r2]; rfl
  | str b => rw [show v = .str b from r2]; rfl
  | lst xs => obtain ⟨a, vs, e, _⟩ := r2; rw [e]; rfl
  | tup xs => obtain ⟨a, vs, e, _⟩ := r2; rw [e]; rfl
  | dct ks vs => obtain ⟨a, vs, e, _⟩ := r2; rw [e]; rfl
  | ref i => obtain ⟨a, _, e⟩ := r2; rw [e]; rfl
  | inst c vs => obtain ⟨a, _, _, e, _⟩ := r2; rw [e]; rfl
  | fn i => rw [show v = .ref (C.fa i) from r2]; rfl
  | tag i d =>
    have h : D.strip d = D.tag i d := e
    exact absurd h (by
      have key : ∀ (d0 : D), ∀ i d', D.strip d0 ≠ .tag i d' := by
        intro d0
        induction d0 using D.strip.induct with
        | case1 i d ih => exact fun i' d' z => ih i' d' z
        | case2 d h => intro i' d' z; unfold D.strip at z; split at z
                       · exact absurd rfl (h _ _)
                       · exact h _ _ z
      exact key d i d)
  | exn c vs => obtain ⟨a, dd, ws, _, e, _⟩ := r2; rw [e]; rfl
  | lam i c => obtain ⟨_, a, e, _⟩ := r2; rw [e]; rfl
  | scr ns => obtain ⟨a, e, _⟩ := r2; rw [e]; rfl
  | kl xs => obtain ⟨a, _, e, _⟩ := r2; rw [e]; rfl
def D.isNon (d : D) : Bool := match d.strip with
  | .non => true
  | _ => false
def gIsN (s : S) (a b : D) : Option D := if b.isNon = true then some (.bl a.isNon) else none
def gNotN (s : S) (a b : D) : Option D := if b.isNon = true then some (.bl (!a.isNon)) else none
def gIsB (s : S) (a b : D) : Option D := match a.strip, b.strip with
  | .bl x, .bl y => some (.bl (decide (x = y)))
  | _, _ => none
section
variable {C : Cfg} {X : Cx}
theorem isNon_eq {W : Wd} {H : Hp} {d : D} {v : V} (r : RD C X.K W H d v) (h : d.isNon = true) : v = .non := by
  have e := non_iff r
  have e2 : decide (v = .non) = d.isNon := e
  rw [h] at e2
  exact of_decide_eq_true e2
theorem o_isN : OpR X (compareOp .Is) (r2 C X.K gIsN) := OpR.imp op_isN fun x y H Q h => by
  obtain ⟨W, s, d, e, t, hd, he, q⟩ := h
  unfold gIsN at q
  by_cases z : e.isNon = true
  · rw [if_pos z] at q
    exact ⟨isNon_eq he z, same_q t q (by rw [non_iff hd]; rfl)⟩
  · rw [if_neg z] at q
    exact q.elim
theorem o_notN : OpR X (compareOp .IsNot) (r2 C X.K gNotN) := OpR.imp op_notN fun x y H Q h => by
  obtain ⟨W, s, d, e, t, hd, he, q⟩ := h
  unfold gNotN at q
  by_cases z : e.isNon = true
  · rw [if_pos z] at q
    exact ⟨isNon_eq he z, same_q t q (by rw [non_iff hd]; rfl)⟩
  · rw [if_neg z] at q
    exact q.elim
theorem o_isB : OpR X (compareOp .Is) (r2 C X.K gIsB) := OpR.imp op_is_bl fun x y H Q h => by
  obtain ⟨W, s, d, e, t, hd, he, q⟩ := h
  have hd := hd.strip
  have he := he.strip
  unfold gIsB at q
  generalize d.strip = d0 at q hd
  generalize e.strip = e0 at q he
  split at q
  · rename_i z hz
    split at hz
    · cases hz
      exact ⟨_, _, hd, he, same_q t q rfl⟩
    · cases hz
  · exact q.elim
end
end DV
end
section
set_option Elab.async false
set_option linter.all false
set_option maxRecDepth 100000
/-! DQ: dicts, in, [], slices over data. -/
namespace DV
open PySem PySem.Spec PyProof.Rows L2

/-! ### keys -/
def kD (d : D) : Option Key := match d.strip with
  | .int i => some (.inl i)
  | .str x => some (.inr x)
  | _ => none
def kDs : List D → Option (List Key)
  | [] => some []
  | d :: ds => match kD d, kDs ds with
    | some a, some b => some (a :: b)
    | _, _ => none
def kTD (d : D) : Option (List Key) := match d.strip with
  | .tup xs => kDs xs
  | _ => none
def look1 : List D → List D → Key → Option D
  | k :: ks, v :: vs, q => if kD k = some q then some v else look1 ks vs q
  | _, _, _ => none
def lookT : List D → List D → List Key → Option D
  | k :: ks, v :: vs, q => if kTD k = some q then some v else lookT ks vs q
  | _, _, _ => none
theorem kD_keyD (k : Key) : kD (keyD k) = some k := by cases k <;> rfl
theorem kDs_map : ∀ ks : List Key, kDs (ks.map keyD) = some ks
  | [] => rfl
  | k :: ks => by
    show (match kD (keyD k), kDs (ks.map keyD) with
      | some a, some b => some (a :: b)
      | _, _ => none) = _
    rw [kD_keyD, kDs_map ks]
theorem kTD_map (ks : List Key) : kTD (.tup (ks.map keyD)) = some ks := kDs_map ks
section
variable {C : Cfg} {K : PySem.W.Frag} {W : Wd} {H : Hp}
theorem kD_rd {d : D} {v : V} {k : Key} (r : RD C K W H d v) (h : kD d = some k) : v = kV k := by
  have r2 := r.strip
  unfold kD at h
  generalize d.strip = d0 at r2 h
  cases d0 with
  | int i => cases h; exact r2
  | str i => cases h; exact r2
  | _ => cases h
theorem kDs_rd : ∀ {ds : List D} {vs : List V} {k : List Key}, RDs C K W H ds vs → kDs ds = some k → vs = k.map kV
  | [], vs, k, r, h => by
    cases h
    exact r
  | d :: ds, vs, k, r, h => by
    obtain ⟨v, rs, rfl, h1, h2⟩ := r
    unfold kDs at h
    cases ha : kD d with
    | none => rw [ha] at h; cases h
    | some a =>
      cases hb : kDs ds with
      | none => rw [ha, hb] at h; cases h
      | some b =>
        rw [ha, hb] at h
        cases h
        rw [kD_rd h1 ha, kDs_rd h2 hb]
        rfl
theorem kTD_rd {d : D} {v : V} {k : List Key} (r : RD C K W H d v) (h : kTD d = some k) : ∃ b, v = .ref b ∧ H b = some (.tup (k.map kV)) := by
  have r2 := r.strip
  unfold kTD at h
  generalize d.strip = d0 at r2 h
  cases d0 with
  | tup xs =>
    obtain ⟨a, vs, e, _, l, q⟩ := r2
    rw [kDs_rd q h] at l
    exact ⟨a, e, l⟩
  | _ => cases h
theorem look1_rd : ∀ {kvs : List (Key × V)} {vs : List D} {q : Key}, RDs C K W H vs (kvs.map (·.2)) → match look1 (kvs.map fun p => keyD p.1) vs q with
    | some d => ∃ v, valV kvs q = some v ∧ RD C K W H d v
    | none => valV kvs q = none
  | [], vs, q, r => by
    show valV [] q = none
    rfl
  | p :: kvs, [], q, r => by
    have r' : p.2 :: kvs.map (·.2) = [] := r
    cases r'
  | p :: kvs, d :: vs, q, r => by
    obtain ⟨v, rs, e, h1, h2⟩ := r
    have e' : p.2 :: kvs.map (·.2) = v :: rs := e
    injection e' with e1 e2
    have ih := look1_rd (q := q) (kvs := kvs) (vs := vs) (by rw [e2]; exact h2)
    by_cases hk : p.1 = q
    · have z : look1 ((p :: kvs).map fun p => keyD p.1) (d :: vs) q = some d := by
        show (if kD (keyD p.1) = some q then some d else _) = some d
        rw [kD_keyD, if_pos (by rw [hk])]
      rw [z, valV_pos hk]
      exact ⟨v, by rw [e1], h1⟩
    · have z : look1 ((p :: kvs).map fun p => keyD p.1) (d :: vs) q = look1 (kvs.map fun p => keyD p.1) vs q := by
        show (if kD (keyD p.1) = some q then some d else look1 (kvs.map fun p => keyD p.1) vs q) = _
        rw [kD_keyD, if_neg (fun z => hk (Option.some.inj z))]
      rw [z, valV_neg hk]
      exact ih
theorem lookT_rd : ∀ {kvs : List (List Key × V)} {vs : List D} {q : List Key}, RDs C K W H vs (kvs.map (·.2)) → match lookT (kvs.map fun p => D.tup (p.1.map keyD)) vs q with
    | some d => ∃ v, valV kvs q = some v ∧ RD C K W H d v
    | none => valV kvs q = none
  | [], vs, q, r => by
    show valV [] q = none
    rfl
  | p :: kvs, [], q, r => by
    have r' : p.2 :: kvs.map (·.2) = [] := r
    cases r'
  | p :: kvs, d :: vs, q, r => by
    obtain ⟨v, rs, e, h1, h2⟩ := r
    have e' : p.2 :: kvs.map (·.2) = v :: rs := e
    injection e' with e1 e2
    have ih := lookT_rd (q := q) (kvs := kvs) (vs := vs) (by rw [e2]; exact h2)
    by_cases hk : p.1 = q
    · have z : lookT ((p :: kvs).map fun p => D.tup (p.1.map keyD)) (d :: vs) q = some d := by
        show (if kTD (.tup (p.1.map keyD)) = some q then some d else _) = some d
        rw [kTD_map, if_pos (by rw [hk])]
      rw [z, valV_pos hk]
      exact ⟨v, by rw [e1], h1⟩
    · have z : lookT ((p :: kvs).map fun p => D.tup (p.1.map keyD)) (d :: vs) q = lookT (kvs.map fun p => D.tup (p.1.map keyD)) vs q := by
        show (if kTD (.tup (p.1.map keyD)) = some q then some d else lookT (kvs.map fun p => D.tup (p.1.map keyD)) vs q) = _
        rw [kTD_map, if_neg (fun z => hk (Option.some.inj z))]
      rw [z, valV_neg hk]
      exact ih
end

/-! ### a dict, and which keys it takes -/
/-- keys, values, whether the keys are tuples -/
def dctD (s : S) (d : D) : Option (List D × List D × Bool) := match d.strip with
  | .ref i => (match s.mo[i]? with
    | some (.dK ks vs) => some (ks, vs, false)
    | some (.dT ks vs) => some (ks, vs, true)
    | _ => none)
  | .dct ks vs => (match ks with
    | .tup _ :: _ => some (ks, vs, true)
    | .int _ :: _ => some (ks, vs, false)
    | .str _ :: _ => some (ks, vs, false)
    | [] => some (ks, vs, false)
    | _ => none)
  | _ => none
section
variable {C : Cfg} {K : PySem.W.Frag} {W : Wd} {H : Hp} {s : S}
theorem dct_of {d : D} {v : V} {ks vs : List D} {t : Bool} (z : StS C K W H s) (r : RD C K W H d v) (h : dctD s d = some (ks, vs, t)) : ∃ a, v = .ref a ∧
    ((t = false ∧ ∃ kvs : List (Key × V), H a = some (.dK kvs) ∧ ks = kvs.map (fun p => keyD p.1) ∧ RDs C K W H vs (kvs.map (·.2))) ∨
     (t = true ∧ ∃ kvs : List (List Key × V), H a = some (.dT kvs) ∧ ks = kvs.map (fun p => D.tup (p.1.map keyD)) ∧ RDs C K W H vs (kvs.map (·.2)))) := by
  have r2 := r.strip
  unfold dctD at h
  generalize d.strip = d0 at r2 h
  cases d0 with
  | ref i =>
    obtain ⟨a, h1, h2⟩ := r2
    have h : (match s.mo[i]? with
      | some (.dK ks vs) => some (ks, vs, false)
      | some (.dT ks vs) => some (ks, vs, true)
      | _ => none) = some (ks, vs, t) := h
    split at h
    · rename_i hx
      cases h
      obtain ⟨kvs, g1, g2, g3, _⟩ := z.mo i _ a hx h1
      exact ⟨a, h2, .inl ⟨rfl, kvs, g1, g2, g3⟩⟩
    · rename_i hx
      cases h
      obtain ⟨kvs, g1, g2, g3, _⟩ := z.mo i _ a hx h1
      exact ⟨a, h2, .inr ⟨rfl, kvs, g1, g2, g3⟩⟩
    · cases h
  | dct ks' vs' =>
    obtain ⟨a, ws, e, _, l, q⟩ := r2
    refine ⟨a, e, ?_⟩
    have h : (match (generalizing := false) ks' with
      | .tup _ :: _ => some (ks', vs', true)
      | .int _ :: _ => some (ks', vs', false)
      | .str _ :: _ => some (ks', vs', false)
      | [] => some (ks', vs', false)
      | _ => none) = some (ks, vs, t) := h
    rcases l with ⟨kvs, g1, g2, g3⟩ | ⟨kvs, g1, g2, g3, g4⟩
    · subst g2 g3
      cases kvs with
      | nil => cases h; exact .inl ⟨rfl, _, g1, rfl, q⟩
      | cons p kvs =>
        obtain ⟨k, x⟩ := p
        cases k with
        | inl i => cases h; exact .inl ⟨rfl, _, g1, rfl, q⟩
        | inr i => cases h; exact .inl ⟨rfl, _, g1, rfl, q⟩
    · subst g2 g3
      cases kvs with
      | nil => exact absurd rfl g4
      | cons p kvs => cases h; exact .inr ⟨rfl, _, g1, rfl, q⟩
  | _ => cases h
/-- what is found at a key: none of the option where the key is no key -/
def findD (x : List D × List D × Bool) (k : D) : Option (Option D) := if x.2.2 = true then (kTD k).map (lookT x.1 x.2.1) else (kD k).map (look1 x.1 x.2.1)
theorem find_of {d k : D} {v y : V} {x : List D × List D × Bool} {o : Option D} (z : StS C K W H s) (r : RD C K W H d v) (rk : RD C K W H k y) (h : dctD s d = some x) (hk : findD x k = some o) : ∃ a, v = .ref a ∧ match o with
    | some e => ∃ u, DGet H a y (some u) ∧ RD C K W H e u
    | none => DGet H a y none := by
  obtain ⟨ks, vs, t⟩ := x
  obtain ⟨a, e, q⟩ := dct_of z r h
  refine ⟨a, e, ?_⟩
  rcases q with ⟨rfl, kvs, g1, rfl, g3⟩ | ⟨rfl, kvs, g1, rfl, g3⟩
  · have hk : (kD k).map (look1 (kvs.map fun p => keyD p.1) vs) = some o := hk
    cases hq : kD k with
    | none => rw [hq] at hk; cases hk
    | some q =>
      rw [hq] at hk
      have hk : look1 (kvs.map fun p => keyD p.1) vs q = o := Option.some.inj hk
      have l := look1_rd (q := q) g3
      rw [hk] at l
      have ey := kD_rd rk hq
      cases o with
      | none => exact .inl ⟨kvs, q, .inl g1, ey, l.symm⟩
      | some e =>
        obtain ⟨u, l1, l2⟩ := l
        exact ⟨u, .inl ⟨kvs, q, .inl g1, ey, l1.symm⟩, l2⟩
  · have hk : (kTD k).map (lookT (kvs.map fun p => D.tup (p.1.map keyD)) vs) = some o := hk
    cases hq : kTD k with
    | none => rw [hq] at hk; cases hk
    | some q =>
      rw [hq] at hk
      have hk : lookT (kvs.map fun p => D.tup (p.1.map keyD)) vs q = o := Option.some.inj hk
      have l := lookT_rd (q := q) g3
      rw [hk] at l
      obtain ⟨b, ey, hb⟩ := kTD_rd rk hq
      cases o with
      | none => exact .inr ⟨kvs, q, b, .inl g1, ey, hb, l.symm⟩
      | some e =>
        obtain ⟨u, l1, l2⟩ := l
        exact ⟨u, .inr ⟨kvs, q, b, .inl g1, ey, hb, l1.symm⟩, l2⟩
end

/-! ### in -/
def fl (d : D) : Option V := match d.strip with
  | .non => some .non
  | .bl b => some (.bl b)
  | .int i => some (.int i)
  | .str x => some (.str x)
  | _ => none
def fls : List D → Option (List V)
  | [] => some []
  | d :: ds => match fl d, fls ds with
    | some a, some b => some (a :: b)
    | _, _ => none
def inLst (x : D) (xs : List D) : Option Bool := match fl x, fls xs with
  | some a, some as => some (inV a as)
  | _, _ => match x.pdS, (D.lst xs).pdS with
    | some d, some (.list ds) => some (ds.any fun z => PyData.eqv z d)
    | _, _ => none
def inTup (x : D) (xs : List D) : Option Bool := match fl x, fls xs with
  | some a, some as => some (inV a as)
  | _, _ => none
def inStr (x : D) (z : Str) : Option Bool := match x with
  | .str ⟨c⟩ => (match c.toList with
    | [k] => some (decide (k ∈ z.cps.toList))
    | _ => none)
  | _ => none
/-- x in y -/
def inD (s : S) (x y : D) : Option Bool := match dctD s y with
  | some t => (findD t x).map (·.isSome)
  | none => match view s y with
    | .str z => inStr (view s x) z
    | .lst xs => inLst (view s x) xs
    | .kl xs => inTup (view s x) xs
    | .tup xs => inTup (view s x) xs
    | _ => none
def gIn (s : S) (x y : D) : Option D := (inD s x y).map .bl
def gNotIn (s : S) (x y : D) : Option D := (inD s x y).map fun b => .bl (!b)
section
variable {C : Cfg} {K : PySem.W.Frag} {W : Wd} {H : Hp} {s : S}
theorem fl_see {d : D} {v u : V} (r : See C K W H d v) (h : fl d = some u) : v = u ∧ flatV u = true := by
  cases d with
  | non => cases h; exact ⟨r, rfl⟩
  | bl b => cases h; exact ⟨r, rfl⟩
  | int b => cases h; exact ⟨r, rfl⟩
  | str b => cases h; exact ⟨r, rfl⟩
  | tag i d =>
    have r : RD C K W H (.tag i d) v := r
    have r2 := r.strip
    unfold fl at h
    generalize D.strip (.tag i d) = d0 at r2 h
    cases d0 with
    | non => cases h; exact ⟨r2, rfl⟩
    | bl b => cases h; exact ⟨r2, rfl⟩
    | int b => cases h; exact ⟨r2, rfl⟩
    | str b => cases h; exact ⟨r2, rfl⟩
    | _ => cases h
  | _ => cases h
theorem fl_rd {d : D} {v u : V} (r : RD C K W H d v) (h : fl d = some u) : v = u ∧ flatV u = true := by
  have r2 := r.strip
  unfold fl at h
  generalize d.strip = d0 at r2 h
  cases d0 with
  | non => cases h; exact ⟨r2, rfl⟩
  | bl b => cases h; exact ⟨r2, rfl⟩
  | int b => cases h; exact ⟨r2, rfl⟩
  | str b => cases h; exact ⟨r2, rfl⟩
  | _ => cases h
theorem fls_rd : ∀ {ds : List D} {vs us : List V}, RDs C K W H ds vs → fls ds = some us → vs = us ∧ us.all flatV = true
  | [], vs, us, r, h => by
    cases h
    exact ⟨r, rfl⟩
  | d :: ds, vs, us, r, h => by
    obtain ⟨v, rs, rfl, h1, h2⟩ := r
    unfold fls at h
    cases ha : fl d with
    | none => rw [ha] at h; cases h
    | some a =>
      cases hb : fls ds with
      | none => rw [ha, hb] at h; cases h
      | some b =>
        rw [ha, hb] at h
        cases h
        obtain ⟨e1, e2⟩ := fl_rd h1 ha
        obtain ⟨e3, e4⟩ := fls_rd h2 hb
        rw [e1, e3, List.all_cons, e2, e4]
        exact ⟨rfl, rfl⟩
end
def rDIn (neg : Bool) : R2 := fun x y H Q => ∃ a o, y = .ref a ∧ DGet H a x o ∧ Q (.bl (if neg then !o.isSome else o.isSome)) H
theorem op_dIn {X : Cx} (hu : X.A.units + 1 < cLine) : OpR X (compareOp .In) (rDIn false) := fun pins s σ H x y v u Q I rx ry h => by
  obtain ⟨a, o, rfl, g, q⟩ := h
  obtain rfl : u = Value.ref a := ry
  exact d_in hu I g rx fun s3 I3 => ⟨.bl o.isSome, H, I3, rfl, q⟩
theorem op_dNotIn {X : Cx} (hu : X.A.units + 1 < cLine) : OpR X (compareOp .NotIn) (rDIn true) := fun pins s σ H x y v u Q I rx ry h => by
  obtain ⟨a, o, rfl, g, q⟩ := h
  obtain rfl : u = Value.ref a := ry
  exact d_notIn hu I g rx fun s3 I3 => ⟨.bl (!o.isSome), H, I3, rfl, q⟩
section
variable {C : Cfg} {X : Cx}
theorem inStr_inv {x : D} {z : Str} {k : Bool} (h : inStr x z = some k) : ∃ c, x = .str ⟨#[c]⟩ ∧ k = decide (c ∈ z.cps.toList) := by
  unfold inStr at h
  split at h
  · rename_i c
    split at h
    · rename_i k hc
      cases h
      refine ⟨k, ?_, rfl⟩
      have e : c = #[k] := by rw [← Array.toArray_toList (xs := c), hc]
      rw [e]
    · cases h
  · cases h
abbrev InR (K : PySem.W.Frag) (neg : Bool) (x y : V) (H : Hp) (Q : VK) : Prop :=
  rDIn neg x y H Q ∨ (∃ c z, x = .str ⟨#[c]⟩ ∧ y = .str z ∧ Q (.bl (if neg then !decide (c ∈ z.cps.toList) else decide (c ∈ z.cps.toList))) H) ∨ rIn K neg x y H Q ∨
      (∃ d ds, Dp K H x d ∧ Dp K H y (.list ds) ∧ SeqAt.shaped d = true ∧ SeqAt.shaped (.list ds) = true ∧ Q (.bl (if neg then !ds.any fun z => PyData.eqv z d else ds.any fun z => PyData.eqv z d)) H)
/-- the reading that x in y wants, with and without not -/
theorem in_reads {neg : Bool} {W : Wd} {H : Hp} {s : S} {d e : D} {x y : V} {k : Bool} {Q : VK} (t : StS C X.K W H s) (hd : RD C X.K W H d x) (he : RD C X.K W H e y) (h : inD s d e = some k) (q : Q (.bl (if neg then !k else k)) H) :
    InR X.K neg x y H Q := by
  have sd := see_of t hd
  have se := see_of t he
  unfold inD at h
  cases hc : dctD s e with
  | some tt =>
    rw [hc] at h
    cases hf : findD tt d with
    | none => 
      have h : (findD tt d).map (·.isSome) = some k := h
      rw [hf] at h; cases h
    | some o =>
      have h : (findD tt d).map (·.isSome) = some k := h
      rw [hf] at h
      cases h
      obtain ⟨a, rfl, g⟩ := find_of t he hd hc hf
      cases o with
      | none => exact .inl ⟨a, none, rfl, g, q⟩
      | some w =>
        obtain ⟨u, g, _⟩ := g
        exact .inl ⟨a, some u, rfl, g, q⟩
  | none =>
    rw [hc] at h
    have tupc : ∀ (xs : List D) (a : Addr) (vs : List V), y = .ref a → (SqL X.K H a vs ∨ SqT X.K H a vs) → RDs C X.K W H xs vs → (∀ a1 a2, fl (view s d) = some a1 → fls xs = some a2 → inV a1 a2 = k → rIn X.K neg x y H Q) := by
      intro xs a vs e0 sq rs a1 a2 f1 f2 f3
      obtain ⟨e1, e2⟩ := fl_see sd f1
      obtain ⟨e3, e4⟩ := fls_rd rs f2
      exact ⟨a, vs, e0, sq, by rw [e1]; exact e2, by rw [e3]; exact e4, by rw [e1, e3, f3]; exact q⟩
    cases hv : view s e with
    | str z =>
      rw [hv] at h se
      obtain ⟨c, e1, e2⟩ := inStr_inv h
      rw [e1] at sd
      exact .inr (.inl ⟨c, z, sd, se, by rw [← e2]; exact q⟩)
    | lst xs =>
      rw [hv] at h se
      have h : inLst (view s d) xs = some k := h
      obtain ⟨a, vs, e0, l, rs⟩ := id se
      have deep : (match (generalizing := false) (view s d).pdS, (D.lst xs).pdS with
          | some d, some (.list ds) => some (ds.any fun z => PyData.eqv z d)
          | _, _ => none) = some k → InR X.K neg x y H Q := fun h => by
        split at h
        · rename_i p ps hp hps
          cases h
          obtain ⟨p1, p2⟩ := pdS_inv hp
          obtain ⟨p3, p4⟩ := pdS_inv hps
          exact .inr (.inr (.inr ⟨p, ps, dp_see sd p1, dp_see se p3, p2, p4, q⟩))
        · cases h
      unfold inLst at h
      cases f1 : fl (view s d) with
      | some a1 =>
        cases f2 : fls xs with
        | some a2 =>
          rw [f1, f2] at h
          exact .inr (.inr (.inl (tupc xs a vs e0 (.inl (SqL.of l)) rs a1 a2 f1 f2 (Option.some.inj h))))
        | none =>
          rw [f1, f2] at h
          exact deep h
      | none =>
        rw [f1] at h
        exact deep h
    | tup xs =>
      rw [hv] at h se
      have h : inTup (view s d) xs = some k := h
      obtain ⟨a, vs, e0, l, rs⟩ := se
      unfold inTup at h
      split at h
      · rename_i a1 a2 f1 f2
        exact .inr (.inr (.inl (tupc xs a vs e0 (.inr (SqT.of l)) rs a1 a2 f1 f2 (Option.some.inj h))))
      · cases h
    | kl xs =>
      rw [hv] at h se
      have h : inTup (view s d) xs = some k := h
      obtain ⟨a, vs, e0, l, rs⟩ := se
      unfold inTup at h
      split at h
      · rename_i a1 a2 f1 f2
        exact .inr (.inr (.inl (tupc xs a vs e0 (.inl (.inr l)) rs a1 a2 f1 f2 (Option.some.inj h))))
      · cases h
    | _ =>
      rw [hv] at h
      cases h
theorem o_in (hu : X.A.units + 65 < cLine) : OpR X (compareOp .In) (r2 C X.K gIn) := OpR.imp ((op_dIn (by omega)).or (op_in_sign.or (op_in_seq.or (op_inD hu)))) fun x y H Q h => by
  obtain ⟨W, s, d, e, t, hd, he, q⟩ := h
  unfold gIn at q
  cases hz : inD s d e with
  | none => rw [hz] at q; exact q.elim
  | some k =>
    rw [hz] at q
    exact in_reads (neg := false) t hd he hz (same_q t q rfl)
theorem o_notIn (hu : X.A.units + 65 < cLine) : OpR X (compareOp .NotIn) (r2 C X.K gNotIn) := OpR.imp ((op_dNotIn (by omega)).or (op_notIn_sign.or (op_notIn_seq.or (op_notInD hu)))) fun x y H Q h => by
  obtain ⟨W, s, d, e, t, hd, he, q⟩ := h
  unfold gNotIn at q
  cases hz : inD s d e with
  | none => rw [hz] at q; exact q.elim
  | some k =>
    rw [hz] at q
    exact in_reads (neg := true) t hd he hz (same_q t q rfl)
end
end DV
end
section
set_option Elab.async false
set_option linter.all false
set_option maxRecDepth 100000
/-! DR: [], slices, calls of built-in functions over data. -/
namespace DV
open PySem PySem.Spec PyProof.Rows L2

/-! ### a[b] -/
def rDGet : R2 := fun x y H Q => ∃ a v, x = .ref a ∧ DGet H a y (some v) ∧ Q v H
theorem ix_dget {X : Cx} (hu : X.A.units + 1 < cLine) : IxR X rDGet := by
  intro value slice pins s σ H x y o i Q I rx ry h hs
  obtain ⟨a, v, rfl, g, q⟩ := h
  obtain rfl : o = Value.ref a := rx
  have hT := dict_typeIs I g
  have h₂ : wpAny (model X.prog X.w) X.A (getItem (.ref a) i) (EP X pins σ Q) X.xe s := d_getItem hu I g ry fun w' s3 I3 rw' => ⟨v, H, I3, rw', q⟩
  unfold subscriptTail
  refine wpAny_bind ?_
  rw [getitemInPython_of_ne hT.not_modules]
  refine wpAny_bind (wpAny_specialOf hT PySem.F.slot_dict_getitem.lookup ?_)
  have fin : wpAny (model X.prog X.w) X.A (subscripted slice false (.ref a) i) (fun r s₃ => wpAny (model X.prog X.w) X.A (letTemporaryGo value (.ref a) r >>= fun _ => pure r) (EP X pins σ Q) X.xe s₃) X.xe s := by
    rw [hs]
    exact wpAny_operating (wpAny_mono h₂ (fun r s₃ h₃ => wpAny_bind (wpAny_letTemporaryGo (wpAny_pure h₃))) fun _ _ x => x)
  first
    | exact wpAny_pure (wpAny_bind fin)
    | exact wpAny_bind (wpAny_pure (wpAny_bind fin))
    | exact wpAny_bind fin
def ixD (v : D) (i : Int) : Option D := match v with
  | .str z => if z.length ≤ sizeLine then (atI z.cps.toList i).map fun c => .str ⟨#[c]⟩ else none
  | v => (seqD v).bind fun xs => atI xs i
def gIx (s : S) (a b : D) : Option D := match dctD s a with
  | some t => (findD t b).bind id
  | none => match view s b with
    | .int i => ixD (view s a) i
    | _ => none
theorem RDs.atI {C : Cfg} {K : PySem.W.Frag} {W : Wd} {H : Hp} {xs : List D} {vs : List V} {i : Int} {d : D} (r : RDs C K W H xs vs) (h : L2.atI xs i = some d) : ∃ v, L2.atI vs i = some v ∧ RD C K W H d v := by
  unfold L2.atI at h ⊢
  rw [r.length] at h
  cases hi : ixN vs.length i with
  | none => rw [hi] at h; cases h
  | some j =>
    rw [hi] at h
    exact r.get h
section
variable {C : Cfg} {X : Cx} {Wx : WX} {a b : Expr} {fa fb : Ex} {pos : Pos}
theorem ix_reads {W : Wd} {H : Hp} {s : S} {d e z : D} {x y : V} {Q : VK} (t : StS C X.K W H s) (hd : RD C X.K W H d x) (he : RD C X.K W H e y) (h : gIx s d e = some z) (q : ∀ v, RD C X.K W H z v → Q v H) : rDGet x y H Q ∨ rIx X.K x y H Q := by
  have sd := see_of t hd
  have se := see_of t he
  unfold gIx at h
  cases hc : dctD s d with
  | some tt =>
    rw [hc] at h
    have h : (findD tt e).bind id = some z := h
    cases hf : findD tt e with
    | none => rw [hf] at h; cases h
    | some o =>
      rw [hf] at h
      have h : o = some z := h
      subst h
      obtain ⟨a, rfl, u, g, r⟩ := find_of t hd he hc hf
      exact .inl ⟨a, u, rfl, g, q u r⟩
  | none =>
    rw [hc] at h
    cases hw : view s e with
    | int i =>
      rw [hw] at h se
      have h : ixD (view s d) i = some z := h
      refine .inr ?_
      have seqc : ∀ xs, seqD (view s d) = some xs → L2.atI xs i = some z → rIx X.K x y H Q := fun xs e1 e2 => by
        obtain ⟨a, vs, rfl, l, r⟩ := seq_of sd e1
        obtain ⟨v, g1, g2⟩ := r.atI e2
        rcases l with l | l
        · exact .inl ⟨a, vs, i, v, rfl, se, l, g1, q v g2⟩
        · exact .inr (.inl ⟨a, vs, i, v, rfl, se, l, g1, q v g2⟩)
      unfold ixD at h
      split at h
      · rename_i zz hz
        rw [hz] at sd
        split at h
        · rename_i hl
          cases hat : L2.atI zz.cps.toList i with
          | none => rw [hat] at h; cases h
          | some c =>
            rw [hat] at h
            cases h
            exact .inr (.inr ⟨zz, i, c, sd, se, hl, hat, q _ rfl⟩)
        · cases h
      · cases hs : seqD (view s d) with
        | none => rw [hs] at h; cases h
        | some xs =>
          rw [hs] at h
          exact seqc xs hs h
    | _ =>
      rw [hw] at h
      cases h
theorem de_ix (hu : X.A.units + 1 < cLine) (ha : DE C X Wx a fa) (hb : DE C X Wx b fb) (hs : PlainIx b := by intro _ _; with_unfolding_all rfl) : DE C X Wx (.Subscript a b pos) (xBin gIx fa fb) :=
  PE.imp (pe_ix ((ix_dget hu).or ix_seq) ha hb hs) fun σ H Q h => by
    have h2 := tD_bin (K := X.K) σ H Q h
    refine (show ∀ σ H Q, tOp (r2 C X.K gIx) (tD C X.K Wx fa) (tD C X.K Wx fb) σ H Q → _ from fun σ H Q h => ?_) σ H Q h2
    obtain ⟨W, env, s, e, q⟩ := h
    refine ⟨W, env, s, e, Res.imp q fun x H1 q1 => ?_⟩
    obtain ⟨W1, env1, s1, e1, q1⟩ := q1
    refine ⟨W1, env1, s1, e1, Res.imp q1 fun y H2 q2 => ?_⟩
    obtain ⟨W2, s2, d, e', t, hd, he, q2⟩ := q2
    cases hz : gIx s2 d e' with
    | none => rw [hz] at q2; exact q2.elim
    | some z =>
      rw [hz] at q2
      exact ix_reads t hd he hz fun v r => q2 W2 H2 v Le.refl t r
end

/-! ### slices -/
abbrev Px := Env → S → Out (Option Int)
def pNo : Px := fun _ s => .ok none s
def pAt (a : Ex) : Px := fun e s => (a e s).bind fun x s => match view s x with
  | .int i => .ok (some i) s
  | _ => .stuck
def cutL {α : Type} (xs : List α) (lo hi : Option Int) : List α := (xs.drop (HT.sIx xs.length 0 lo)).take (HT.sIx xs.length xs.length hi - HT.sIx xs.length 0 lo)
def sliceD (v : D) (lo hi : Option Int) : Option D := match v with
  | .str z => if z.length ≤ sizeLine then some (.str (cutS z lo hi)) else none
  | .tup xs => some (.tup (cutL xs lo hi))
  | v => (lstD v).map fun xs => .lst (cutL xs lo hi)
def xSlice (a : Ex) (lo hi : Px) : Ex := fun e s => (a e s).bind fun x s => (lo e s).bind fun l s => (hi e s).bind fun h s => Out.of (sliceD (view s x) l h) s
def tPx (C : Cfg) (K : PySem.W.Frag) (Wx : WX) (f : Px) : TO := fun σ H Q => ∃ W env s, StE C K W H σ env s ∧ Res C K (fun _ _ a b => a = b) Wx σ env W H s (f env s) Q
def DPt (C : Cfg) (X : Cx) (Wx : WX) (e : Option Expr) (f : Px) : Prop := PO X e (tPx C X.K Wx f)
theorem PO.imp {X : Cx} {e : Option Expr} {t t' : TO} (h : PO X e t) (f : ∀ σ H Q, t' σ H Q → t σ H Q) : PO X e t' := ⟨fun pins s σ H Q I q => h.run pins s σ H Q I (f _ _ _ q)⟩
theorem RDs.drop {C : Cfg} {K : PySem.W.Frag} {W : Wd} {H : Hp} : ∀ {xs : List D} {vs : List V} (n : Nat), RDs C K W H xs vs → RDs C K W H (xs.drop n) (vs.drop n)
  | _, _, 0, r => r
  | [], vs, n + 1, r => by
    have e : vs = [] := r
    subst e
    rfl
  | x :: xs, vs, n + 1, r => by
    obtain ⟨v, rs, rfl, _, h2⟩ := r
    exact RDs.drop n h2
theorem RDs.take {C : Cfg} {K : PySem.W.Frag} {W : Wd} {H : Hp} : ∀ {xs : List D} {vs : List V} (n : Nat), RDs C K W H xs vs → RDs C K W H (xs.take n) (vs.take n)
  | _, _, 0, r => by
    rw [List.take_zero, List.take_zero]
    rfl
  | [], vs, n + 1, r => by
    have e : vs = [] := r
    subst e
    rfl
  | x :: xs, vs, n + 1, r => by
    obtain ⟨v, rs, rfl, h1, h2⟩ := r
    exact ⟨v, rs.take n, rfl, h1, RDs.take n h2⟩
theorem RDs.cut {C : Cfg} {K : PySem.W.Frag} {W : Wd} {H : Hp} {xs : List D} {vs : List V} (lo hi : Option Int) (r : RDs C K W H xs vs) : RDs C K W H (cutL xs lo hi) (cutV vs lo hi) := by
  unfold cutL cutV
  rw [r.length]
  exact (r.drop _).take _
section
variable {C : Cfg} {X : Cx} {Wx : WX} {a b : Expr} {fa fb : Ex} {pos : Pos}
theorem dp_no : DPt C X Wx none pNo := PO.imp po_none fun σ H Q h => by
  obtain ⟨W, env, s, e, q⟩ := h
  exact Res.here (a := none) q e rfl
theorem dp_at (ha : DE C X Wx a fa) : DPt C X Wx (some a) (pAt fa) := PO.imp (po_some ha) fun σ H Q h => by
  obtain ⟨W, env, s, e, q⟩ := h
  refine ⟨W, env, s, e, Res.step q fun W1 H1 s1 d x l1 e1 h1 q1 => ?_⟩
  have z := see_of e1.st h1
  revert q1
  split
  · rename_i i hi
    rw [hi] at z
    exact fun q1 => ⟨i, z, Res.here (b := some i) q1 e1 rfl⟩
  · exact fun q1 => q1.elim
theorem slice_reads {W : Wd} {H : Hp} {s : S} {d z : D} {x : V} {lo hi : Option Int} {Q : VK} (t : StS C X.K W H s) (hd : RD C X.K W H d x) (h : sliceD (view s d) lo hi = some z) (q : ∀ W' H' v, Le W H s W' H' s → StS C X.K W' H' s → RD C X.K W' H' z v → Q v H') :
    rSlL X.K x lo hi H Q ∨ rSlS x lo hi H Q ∨ rSlA X.K x lo hi H Q := by
  have sd := see_of t hd
  have lc : ∀ v, view s d = v → (lstD v).map (fun xs => D.lst (cutL xs lo hi)) = some z → rSlL X.K x lo hi H Q := fun v e h => by
    rw [e] at sd
    cases hl : lstD v with
    | none => rw [hl] at h; cases h
    | some xs =>
      rw [hl] at h
      cases h
      obtain ⟨a, vs, rfl, l, r⟩ := lst_of sd hl
      exact ⟨a, vs, rfl, l, new_lst t (r.cut lo hi) q⟩
  cases hv : view s d with
  | str zz =>
    rw [hv] at h sd
    have h : (if zz.length ≤ sizeLine then some (D.str (cutS zz lo hi)) else none) = some z := h
    split at h
    · rename_i hl
      cases h
      exact .inr (.inl ⟨zz, sd, hl, same_q t q rfl⟩)
    · cases h
  | tup xs =>
    rw [hv] at h
    have h : some (D.tup (cutL xs lo hi)) = some z := h
    cases h
    have hd' := hd.strip
    rw [view_tup hv] at hd'
    obtain ⟨a, vs, rfl, f, l, r⟩ := hd'
    refine .inr (.inr ⟨a, vs, rfl, SqT.of l, fun hw => ?_, fun _ => new_tup t (r.cut lo hi) q⟩)
    refine same_q t q ⟨a, vs, rfl, f, l, ?_⟩
    have e : cutL xs lo hi = xs := by
      unfold cutL
      rw [r.length, hw.1, hw.2, List.drop_zero, Nat.sub_zero, ← r.length, List.take_length]
    rw [e]
    exact r
  | lst xs => exact .inl (lc _ hv (by rw [hv] at h; exact h))
  | scr xs => exact .inl (lc _ hv (by rw [hv] at h; exact h))
  | kl xs => exact .inl (lc _ hv (by rw [hv] at h; exact h))
  | _ =>
    rw [hv] at h
    cases h
theorem de_slice {lo hi : Option Expr} {fl fh : Px} {p2 : Pos} (ha : DE C X Wx a fa) (hl : DPt C X Wx lo fl) (hh : DPt C X Wx hi fh) : DE C X Wx (.Subscript a (.Slice lo hi none p2) pos) (xSlice fa fl fh) :=
  PE.imp (pe_slice (sl_list.or (sl_str.or sl_tupA)) ha hl hh) fun σ H Q h => by
    obtain ⟨W, env, s, e, q⟩ := h
    refine ⟨W, env, s, e, Res.step q fun W1 H1 s1 d x l1 e1 h1 q1 => ⟨W1, env, s1, e1, Res.step q1 fun W2 H2 s2 lo' lo2 l2 e2 h2 q2 => ⟨W2, env, s2, e2, Res.step q2 fun W3 H3 s3 hi' hi2 l3 e3 h3 q3 => ?_⟩⟩⟩
    have h2 : lo' = lo2 := h2
    have h3 : hi' = hi2 := h3
    subst h2 h3
    have h4 := (h1.mono l2 e1.st).mono l3 e2.st
    revert q3
    unfold Out.of
    cases hz : sliceD (view s3 d) lo' hi' with
    | none => exact fun q => q.elim
    | some z => exact fun q => slice_reads e3.st h4 hz fun W4 H4 v l4 t4 r4 => q W4 H4 v l4 (e3.later l4 t4) r4
/-- xs[::-1] -/
def gRevL (s : S) (a : D) : Option D := (lstD (view s a)).map fun xs => .lst xs.reverse
theorem RDs.rev {K : PySem.W.Frag} {W : Wd} {H : Hp} : ∀ {xs : List D} {vs : List V}, RDs C K W H xs vs → RDs C K W H xs.reverse vs.reverse
  | [], vs, r => by
    have e : vs = [] := r
    subst e
    rfl
  | x :: xs, vs, r => by
    obtain ⟨v, rs, rfl, h1, h2⟩ := r
    rw [List.reverse_cons, List.reverse_cons]
    exact (RDs.rev h2).append ⟨v, [], rfl, h1, rfl⟩
theorem de_revL {k : Nat} {p1 p2 p3 : Pos} (ha : DE C X Wx a fa) : DE C X Wx (.Subscript a (.Slice none none (some (.UnaryOp .USub (.Constant (.int 1) k p1) p2)) p3) pos) (xUn gRevL fa) :=
  PE.imp (pe_revL ha) fun σ H Q h => by
    obtain ⟨W, env, s, e, q⟩ := h
    refine ⟨W, env, s, e, Res.step q fun W1 H1 s1 d x l1 e1 h1 q1 => ?_⟩
    have z := see_of e1.st h1
    revert q1
    unfold Out.of gRevL
    cases hl : lstD (view s1 d) with
    | none => exact fun q => q.elim
    | some xs =>
      intro q
      obtain ⟨a, vs, rfl, l, r⟩ := lst_of z hl
      exact ⟨a, vs, rfl, l, new_lst e1.st r.rev fun W4 H4 v l4 t4 r4 => q W4 H4 v l4 (e1.later l4 t4) r4⟩
end
end DV
end
section
set_option Elab.async false
set_option linter.all false
set_option maxRecDepth 100000
/-! DS: calls of built-in functions over data. -/
namespace DV
open PySem PySem.Spec PyProof.Rows L2

/-! ### a call of one argument -/
/-- a rule of one value -/
def f1 (g : S → D → Option D) : S → List D → Out D := fun s ds => match ds with
  | [d] => Out.of (g s d) s
  | _ => .stuck
theorem rds1 {C : Cfg} {K : PySem.W.Frag} {W : Wd} {H : Hp} {d : D} {vs : List V} (r : RDs C K W H [d] vs) : ∃ v, vs = [v] ∧ RD C K W H d v := by
  obtain ⟨v, rs, e, h1, h2⟩ := r
  have h2 : rs = [] := h2
  subst h2
  exact ⟨v, e, h1⟩
theorem rds2 {C : Cfg} {K : PySem.W.Frag} {W : Wd} {H : Hp} {d e : D} {vs : List V} (r : RDs C K W H [d, e] vs) : ∃ v u, vs = [v, u] ∧ RD C K W H d v ∧ RD C K W H e u := by
  obtain ⟨v, rs, e, h1, h2⟩ := r
  obtain ⟨u, e2, h3⟩ := rds1 h2
  subst e2
  exact ⟨v, u, e, h1, h3⟩
section
variable {C : Cfg} {K : PySem.W.Frag}
theorem rc1 {g : S → D → Option D} {vs : List V} {H : Hp} {Q : VK} (h : rc C K (f1 g) vs H Q) : ∃ W s d v z, vs = [v] ∧ StS C K W H s ∧ RD C K W H d v ∧ g s d = some z ∧ ∀ W' H' v, Le W H s W' H' s → StS C K W' H' s → RD C K W' H' z v → Q v H' := by
  obtain ⟨W, s, ds, t, r, q⟩ := h
  match ds, r, q with
  | [], _, q => exact q.elim
  | [d], r, q =>
    obtain ⟨v, e, r1⟩ := rds1 r
    have q : (match Out.of (g s d) s with
      | .ok d s' => ∀ W' H' v, Le W H s W' H' s' → StS C K W' H' s' → RD C K W' H' d v → Q v H'
      | _ => False) := q
    cases hz : g s d with
    | none => rw [hz] at q; exact q.elim
    | some z =>
      rw [hz] at q
      exact ⟨W, s, d, v, z, e, t, r1, hz, q⟩
  | _ :: _ :: _, _, q => exact q.elim
end
theorem CallR.r1 {C : Cfg} {X : Cx} {f : Value} {r : List V → Hp → VK → Prop} {g : S → D → Option D} (h : CallR X f r) (i : ∀ W s d z v H Q, StS C X.K W H s → RD C X.K W H d v → g s d = some z → (∀ W' H' v, Le W H s W' H' s → StS C X.K W' H' s → RD C X.K W' H' z v → Q v H') → r [v] H Q) :
    CallR X f (rc C X.K (f1 g)) := CallR.imp h fun vs H Q h => by
  obtain ⟨W, s, d, v, z, rfl, t, rd, hz, q⟩ := rc1 h
  exact i W s d z v H Q t rd hz q

/-! ### new lists from calls -/
def rcN (C : Cfg) (K : PySem.W.Frag) (F : S → List D → Option (List D)) : List V → Hp → VK → Prop := fun vs H Q => ∃ W s ds, StS C K W H s ∧ RDs C K W H ds vs ∧ match F s ds with
  | some xs => ∀ W' H' p ws, Le W H s W' H' s → StS C K W' H' s → ¬ W'.F p → p ∉ W'.al → H p = none → H' p = some (.lst ws) → RDs C K W' H' xs ws → Q (.ref p) H'
  | none => False
def aCallN (F : S → List D → Option (List D)) (a : Ax) : Ax := fun e s => (a e s).bind fun ds s => Out.of (F s ds) s
def fn1 (g : S → D → Option (List D)) : S → List D → Option (List D) := fun s ds => match ds with
  | [d] => g s d
  | _ => none
section
variable {C : Cfg} {K : PySem.W.Frag} {Wx : WX}
theorem tN_callB {F : S → List D → Option (List D)} {fa : Ax} : ∀ σ H Q, tN C K Wx (aCallN F fa) σ H Q → tAx C K Wx fa σ H fun vs H1 => rcN C K F vs H1 Q := fun σ H Q h => by
  obtain ⟨W, env, s, e, q⟩ := h
  refine ⟨W, env, s, e, ?_⟩
  unfold aCallN at q
  revert q
  cases fa env s with
  | ok ds s1 =>
    intro q W1 H1 vs l1 e1 r1
    refine ⟨W1, s1, ds, e1.st, r1, ?_⟩
    revert q
    show (match Out.of (F s1 ds) s1 with
      | .ok ds s' => _
      | .exc c vs s' => _
      | .stuck => False) → _
    cases F s1 ds with
    | some xs => exact fun q W2 H2 p ws l2 t2 n1 n2 hp h1 r => q W2 H2 p ws (l1.trans l2) (e1.later l2 t2) n1 n2 (l1.wasNone hp) h1 r
    | none => exact fun q => q
  | exc c vs s1 => exact fun q => q
  | stuck => exact fun q => q
theorem new_r {W : Wd} {H : Hp} {s : S} {ds : List D} {vs : List V} {Q : VK} (t : StS C K W H s) (r : RDs C K W H ds vs)
    (q : ∀ W' H' p ws, Le W H s W' H' s → StS C K W' H' s → ¬ W'.F p → p ∉ W'.al → H p = none → H' p = some (.lst ws) → RDs C K W' H' ds ws → Q (.ref p) H') : ∀ p, H p = none → Q (.ref p) (L2.upd H p (.lst vs)) := fun p hp => by
  have nF : ¬ W.F p := fun z => (t.fz p z).1 hp
  have nA : p ∉ W.al := fun z => t.alh p z hp
  exact q W _ p vs (Le.fresh hp) (t.upd nF nA (.none hp)) nF nA hp upd_same (r.lf (Lf.upd nF))
end
theorem CallR.n1 {C : Cfg} {X : Cx} {f : Value} {r : List V → Hp → VK → Prop} {g : S → D → Option (List D)} (h : CallR X f r)
    (i : ∀ W s d xs v H Q, StS C X.K W H s → RD C X.K W H d v → g s d = some xs → (∀ W' H' p ws, Le W H s W' H' s → StS C X.K W' H' s → ¬ W'.F p → p ∉ W'.al → H p = none → H' p = some (.lst ws) → RDs C X.K W' H' xs ws → Q (.ref p) H') → r [v] H Q) :
    CallR X f (rcN C X.K (fn1 g)) := CallR.imp h fun vs H Q h => by
  obtain ⟨W, s, ds, t, r, q⟩ := h
  match ds, r, q with
  | [], _, q => exact q.elim
  | [d], r, q =>
    obtain ⟨v, rfl, r1⟩ := rds1 r
    have q : (match g s d with
      | some xs => ∀ W' H' p ws, Le W H s W' H' s → StS C X.K W' H' s → ¬ W'.F p → p ∉ W'.al → H p = none → H' p = some (.lst ws) → RDs C X.K W' H' xs ws → Q (.ref p) H'
      | none => False) := q
    cases hz : g s d with
    | none => rw [hz] at q; exact q.elim
    | some z =>
      rw [hz] at q
      exact i W s d z v H Q t r1 hz q
  | _ :: _ :: _, _, q => exact q.elim
section
variable {C : Cfg} {X : Cx} {Wx : WX} {e : Expr} {es : List Expr} {fa : Ax} {pos p : Pos} {x : Str} {F : S → List D → Option (List D)}
theorem ne_callB {id : String} (hc : CallR X (.builtin id) (rcN C X.K F)) (hg : Gl X x) (hm : X.mg x = none) (hv : bootBuiltins x = some (.builtin id)) (ha : DA C X Wx (e :: es) fa) (hn : x ≠ "__name__" := by decide) (hdb : (x == ("__debug__" : Str)) = false := by decide)
    (he : starEach (e :: es) X.env = (false, eval e X.env) :: starEach es X.env := by rfl) (hpl : (backTo pos (starEach es X.env)).any (·.1) = false := by rfl) : NE C X Wx (.Call (.Name x p) (e :: es) [] pos) (aCallN F fa) :=
  PE.imp (pe_callB hc hg hm hv ha hn hdb he hpl) tN_callB
theorem ne_callTy {T : String} (hc : CallR X (.type T) (rcN C X.K F)) (hg : Gl X x) (hm : X.mg x = none) (hv : bootBuiltins x = some (.type T)) (ha : DA C X Wx (e :: es) fa) (hn : x ≠ "__name__" := by decide) (hdb : (x == ("__debug__" : Str)) = false := by decide)
    (he : starEach (e :: es) X.env = (false, eval e X.env) :: starEach es X.env := by rfl) (hpl : (backTo pos (starEach es X.env)).any (·.1) = false := by rfl) : NE C X Wx (.Call (.Name x p) (e :: es) [] pos) (aCallN F fa) :=
  PE.imp (pe_callTy hc hg hm hv ha hn hdb he hpl) tN_callB
/-- [a, b, ..] -/
def aLst (a : Ax) : Ax := fun e s => (a e s).bind fun xs s => if xs.length ≤ sizeLine then .ok xs s else .stuck
theorem ne_lst (h : DA C X Wx es fa) : NE C X Wx (.List es pos) (aLst fa) := PE.imp (pe_lst h) fun σ H Q h => by
  obtain ⟨W, env, s, e, q⟩ := h
  refine ⟨W, env, s, e, ?_⟩
  unfold aLst at q
  revert q
  cases fa env s with
  | ok ds s1 =>
    intro q W1 H1 vs l1 e1 r1
    have q : (match (if ds.length ≤ sizeLine then Out.ok ds s1 else .stuck) with
      | .ok ds s' => ∀ W' H' p vs, Le W H s W' H' s' → StE C X.K W' H' σ env s' → ¬ W'.F p → p ∉ W'.al → H p = none → H' p = some (.lst vs) → RDs C X.K W' H' ds vs → Q (.ref p) H'
      | .exc c vs s' => _
      | .stuck => False) := q
    by_cases hl : ds.length ≤ sizeLine
    · rw [if_pos hl] at q
      exact ⟨by rw [← r1.length]; exact hl, new_r e1.st r1 fun W2 H2 p ws l2 t2 n1 n2 hp h1 r => q W2 H2 p ws (l1.trans l2) (e1.later l2 t2) n1 n2 (l1.wasNone hp) h1 r⟩
    · rw [if_neg hl] at q
      exact q.elim
  | exc c vs s1 => exact fun q => q
  | stuck => exact fun q => q
/-- a + b, lists -/
def aCat (a b : Ex) : Ax := fun e s => (a e s).bind fun x s => (b e s).bind fun y s => match view s x, view s y with
  | .lst xs, .lst ys => if xs.length + ys.length ≤ sizeLine then .ok (xs ++ ys) s else .stuck
  | _, _ => .stuck
theorem ne_cat {a b : Expr} {fa fb : Ex} (ha : DE C X Wx a fa) (hb : DE C X Wx b fb) : NE C X Wx (.BinOp a .Add b pos) (aCat fa fb) := PE.imp (pe_op op_cat ha hb) fun σ H Q h => by
  obtain ⟨W, env, s, e, q⟩ := h
  refine ⟨W, env, s, e, ?_⟩
  unfold aCat at q
  revert q
  cases fa env s with
  | exc c vs s1 => exact fun q => q
  | stuck => exact fun q => q
  | ok x s1 =>
    intro q W1 H1 v l1 e1 r1
    refine ⟨W1, env, s1, e1, ?_⟩
    revert q
    show (match ((fb env s1).bind fun y s => match view s x, view s y with
      | .lst xs, .lst ys => if xs.length + ys.length ≤ sizeLine then Out.ok (xs ++ ys) s else .stuck
      | _, _ => .stuck) with
      | .ok ds s' => _
      | .exc c vs s' => _
      | .stuck => False) → _
    cases fb env s1 with
    | exc c vs s2 => exact fun q W2 H2 dd ws l2 => q W2 H2 dd ws (l1.trans l2)
    | stuck => exact fun q => q
    | ok y s2 =>
      intro q W2 H2 u l2 e2 r2
      have v1 := see_of e2.st (r1.mono l2 e1.st)
      have v2 := see_of e2.st r2
      have q : (match (match view s2 x, view s2 y with
        | .lst xs, .lst ys => if xs.length + ys.length ≤ sizeLine then Out.ok (xs ++ ys) s2 else .stuck
        | _, _ => .stuck) with
        | .ok ds s' => ∀ W' H' p vs, Le W H s W' H' s' → StE C X.K W' H' σ env s' → ¬ W'.F p → p ∉ W'.al → H p = none → H' p = some (.lst vs) → RDs C X.K W' H' ds vs → Q (.ref p) H'
        | .exc c vs s' => _
        | .stuck => False) := q
      cases hx : view s2 x with
      | lst xs =>
        cases hy : view s2 y with
        | lst ys =>
          rw [hx, hy] at q
          rw [hx] at v1
          rw [hy] at v2
          obtain ⟨a1, us, rfl, g1, z1⟩ := v1
          obtain ⟨a2, ws, rfl, g2, z2⟩ := v2
          have q : (match (if xs.length + ys.length ≤ sizeLine then Out.ok (xs ++ ys) s2 else .stuck) with
            | .ok ds s' => ∀ W' H' p vs, Le W H s W' H' s' → StE C X.K W' H' σ env s' → ¬ W'.F p → p ∉ W'.al → H p = none → H' p = some (.lst vs) → RDs C X.K W' H' ds vs → Q (.ref p) H'
            | .exc c vs s' => _
            | .stuck => False) := q
          by_cases hl : xs.length + ys.length ≤ sizeLine
          · rw [if_pos hl] at q
            have l12 := l1.trans l2
            exact ⟨a1, a2, us, ws, rfl, rfl, g1, g2, by rw [← z1.length, ← z2.length]; exact hl, new_r e2.st (z1.append z2) fun W3 H3 p ws l3 t3 n1 n2 hp h1 r => q W3 H3 p ws (l12.trans l3) (e2.later l3 t3) n1 n2 (l12.wasNone hp) h1 r⟩
          · rw [if_neg hl] at q
            exact q.elim
        | _ =>
          rw [hx, hy] at q
          exact q.elim
      | _ =>
        rw [hx] at q
        exact q.elim
end

/-! ### len, list, tuple -/
def gLen (s : S) (d : D) : Option D := match view s d with
  | .str x => if x.length ≤ sizeLine then some (.int x.length) else none
  | .dct ks _ => some (.int ks.length)
  | v => (seqD v).map fun xs => .int xs.length
def signsD (z : Str) : List D := z.cps.toList.map fun c => .str ⟨#[c]⟩
def gList (s : S) (d : D) : Option (List D) := match dctD s d with
  | some (ks, _, false) => some ks
  | some (_, _, true) => none
  | none => match view s d with
    | .str z => if z.cps.size ≤ sizeLine then some (signsD z) else none
    | v => seqD v
def gTuple (s : S) (d : D) : Option D := (seqD (view s d)).map .tup
def rListStr : List V → Hp → VK → Prop := fun xs H Q => ∃ z : Str, xs = [.str z] ∧ z.cps.size ≤ sizeLine ∧ ∀ p, H p = none → Q (.ref p) (L2.upd H p (.lst (z.cps.toList.map fun c => V.str ⟨#[c]⟩)))
theorem cr_listStr {X : Cx} (hc : X.calm = true) : CallR X (.type "list") rListStr := fun pins s σ H xs us Q I r h => by
  obtain ⟨z, rfl, hz, q⟩ := h
  obtain ⟨u, rfl, ru⟩ := vals1 r
  obtain ⟨t, rfl⟩ := ru
  refine call_list_str (hn := hz) (I.ok.hd hc) z t fun h' tk acc c' hk e hi => ?_
  have hl : (z.cps.toList.map fun c => V.str ⟨#[c]⟩).length = z.cps.size := by simp
  refine ⟨.ref s.heap.objs.size, _, I.laid (o := .lst (z.cps.toList.map fun c => V.str ⟨#[c]⟩)) hk (Nat.le_refl _) ⟨by rw [hl]; exact hz, acc.toList, c', ?_, by rw [Array.toArray_toList]; exact e⟩, rfl, q _ (I.hok.fresh (Nat.le_refl _))⟩
  refine vals_of_idx _ _ (by rw [hl, Array.length_toList]; exact hi.1) fun j u hj => ?_
  obtain ⟨c, t', hc, rfl⟩ := hi.2 j u (by rw [← Array.getElem?_toList]; exact hj)
  refine ⟨.str ⟨#[c]⟩, ?_, ⟨_, rfl⟩⟩
  rw [List.getElem?_map, Array.getElem?_toList, hc]
  rfl
theorem rds_signs {C : Cfg} {K : PySem.W.Frag} {W : Wd} {H : Hp} : ∀ cs : List Nat, RDs C K W H (cs.map fun c => .str ⟨#[c]⟩) (cs.map fun c => V.str ⟨#[c]⟩)
  | [] => rfl
  | c :: cs => ⟨.str ⟨#[c]⟩, cs.map fun c => V.str ⟨#[c]⟩, rfl, rfl, rds_signs cs⟩
theorem rds_keys {C : Cfg} {K : PySem.W.Frag} {W : Wd} {H : Hp} : ∀ kvs : List (Key × V), RDs C K W H (kvs.map fun p => keyD p.1) (kvs.map fun p => kV p.1)
  | [] => rfl
  | (k, v) :: kvs => by
    refine ⟨kV k, kvs.map fun p => kV p.1, rfl, ?_, rds_keys kvs⟩
    cases k <;> rfl
section
variable {C : Cfg} {X : Cx}
theorem seqD_dct {s : S} {d : D} {xs : List D} (h : seqD (view s d) = some xs) : ∀ ks vs, view s d ≠ .dct ks vs := fun ks vs z => by
  rw [z] at h
  cases h
theorem c_len : CallR X (.builtin "len") (rc C X.K (f1 gLen)) := CallR.r1 (call_len.or (call_lenD.or call_len_dT)) fun W s d z v H Q t r h q => by
  have sd := see_of t r
  have key : ∀ xs, seqD (view s d) = some xs → z = .int xs.length → ∃ (x : V) (n : Nat), [v] = [x] ∧ LenV X.K x H n ∧ Q (.int n) H := fun xs e1 e2 => by
    obtain ⟨a, vs, rfl, l, rs⟩ := seq_of sd e1
    subst e2
    refine ⟨V.ref a, vs.length, rfl, l.elim (fun l => .inl ⟨vs, l, rfl⟩) (fun l => .inr ⟨vs, l, rfl⟩), same_q t q ?_⟩
    show V.int _ = V.int _
    rw [rs.length]
  unfold gLen at h
  cases hv : view s d with
  | str x =>
    rw [hv] at h sd
    have h : (if x.length ≤ sizeLine then some (D.int x.length) else none) = some z := h
    split at h
    · rename_i hl
      cases h
      exact .inl ⟨v, x.length, rfl, by rw [show v = .str x from sd]; exact ⟨hl, rfl⟩, same_q t q rfl⟩
    · cases h
  | dct ks vs =>
    rw [hv] at h sd
    cases h
    obtain ⟨a, ws, rfl, l, rs⟩ := sd
    rcases l with ⟨kvs, g1, g2, g3⟩ | ⟨kvs, g1, g2, g3⟩
    · refine .inr (.inl ⟨a, kvs, rfl, g1, same_q t q ?_⟩)
      show V.int (kvs.length : Int) = V.int (ks.length : Int)
      rw [g2, List.length_map]
    · refine .inr (.inr ⟨a, kvs, rfl, g1, same_q t q ?_⟩)
      show V.int (kvs.length : Int) = V.int (ks.length : Int)
      rw [g2, List.length_map]
  | lst xs => rw [hv] at h; exact .inl <| key _ (by rw [hv]; rfl) (Option.some.inj h).symm
  | tup xs => rw [hv] at h; exact .inl <| key _ (by rw [hv]; rfl) (Option.some.inj h).symm
  | scr xs => rw [hv] at h; exact .inl <| key _ (by rw [hv]; rfl) (Option.some.inj h).symm
  | kl xs => rw [hv] at h; exact .inl <| key _ (by rw [hv]; rfl) (Option.some.inj h).symm
  | _ =>
    rw [hv] at h
    cases h
theorem c_tuple : CallR X (.type "tuple") (rc C X.K (f1 gTuple)) := CallR.r1 call_tuple_of fun W s d z v H Q t r h q => by
  have sd := see_of t r
  unfold gTuple at h
  cases hs : seqD (view s d) with
  | none => rw [hs] at h; cases h
  | some xs =>
    rw [hs] at h
    cases h
    cases hl : lstD (view s d) with
    | some ys =>
      have e : xs = ys := by
        cases hv : view s d <;> rw [hv] at hs hl <;> first | (cases hs; done) | (cases hs; cases hl; rfl) | (cases hl; done)
      subst e
      obtain ⟨a, vs, rfl, l, rs⟩ := lst_of sd hl
      exact ⟨a, vs, rfl, .inl ⟨l, new_tup t rs q⟩⟩
    | none =>
      cases hv : view s d with
      | tup ys =>
        rw [hv] at hs
        cases hs
        have hd := r.strip
        rw [view_tup hv] at hd
        obtain ⟨a, vs, e, f, l, rs⟩ := id hd
        subst e
        exact ⟨a, vs, rfl, .inr ⟨SqT.of l, same_q t q hd⟩⟩
      | _ => rw [hv] at hs hl; first | (cases hs; done) | (cases hl; done)
theorem c_list (hc : X.calm = true) : CallR X (.type "list") (rcN C X.K (fn1 gList)) := CallR.n1 (call_list_of.or (((call_listD hc).or (cr_listStr hc)))) fun W s d xs v H Q t r h q => by
  have sd := see_of t r
  unfold gList at h
  cases hk : dctD s d with
  | some kk =>
    obtain ⟨ks, vs, tt⟩ := kk
    rw [hk] at h
    cases tt with
    | true => cases h
    | false =>
      cases h
      obtain ⟨a, rfl, z⟩ := dct_of t r hk
      rcases z with ⟨_, kvs, g1, g2, g3⟩ | ⟨z, _⟩
      · subst g2
        exact .inr (.inl ⟨a, kvs, rfl, .inl g1, new_r t (rds_keys kvs) q⟩)
      · cases z
  | none =>
    rw [hk] at h
    have h : (match view s d with
      | .str z => if z.cps.size ≤ sizeLine then some (signsD z) else none
      | v => seqD v) = some xs := h
    split at h
    · rename_i z hz
      rw [hz] at sd
      split at h
      · rename_i hl
        cases h
        exact .inr (.inr ⟨z, by rw [show v = .str z from sd], hl, new_r t (rds_signs _) q⟩)
      · cases h
    · obtain ⟨a, vs, rfl, l, rs⟩ := seq_of sd h
      exact .inl ⟨a, vs, rfl, l, new_r t rs q⟩
end
end DV
end
section
set_option Elab.async false
set_option linter.all false
set_option maxRecDepth 100000
/-! DT: what is walked: lists, tuples, texts, range, enumerate, zip. -/
namespace DV
open PySem PySem.Spec PyProof.Rows L2

def srcD (d : D) (xs : List D) : List (Nat × List D) := match d.strip with
  | .ref i => [(i, xs)]
  | _ => []
def wkD (d : D) (xs : List D) : Wk := ⟨xs, srcD d xs⟩
theorem view_same {s s' : S} {d : D} {xs : List D} (h : view s d = .lst xs) (w : ∀ p ∈ srcD d xs, s'.mo[p.1]? = some (.lst p.2)) : view s' d = .lst xs := by
  unfold view at h ⊢
  unfold srcD at w
  generalize d.strip = d0 at h w
  cases d0 with
  | ref i =>
    have w : s'.mo[i]? = some (.lst xs) := w (i, xs) List.mem_cons_self
    show (match s'.mo[i]? with
      | some (.lst xs) => D.lst xs
      | some (.dK ks vs) => .dct ks vs
      | some (.dT ks vs) => .dct ks vs
      | some (.ins c vs) => .inst c vs
      | _ => .ref i) = _
    rw [w]
  | lst ys => exact h
  | _ => cases h
theorem view_fix {s s' : S} {d : D} (h : match view s d with
    | .tup _ => True
    | .kl _ => True
    | .scr _ => True
    | _ => False) : view s' d = view s d := by
  unfold view at h ⊢
  generalize d.strip = d0 at h
  cases d0 with
  | ref i =>
    have h : (match (match s.mo[i]? with
      | some (.lst xs) => D.lst xs
      | some (.dK ks vs) => .dct ks vs
      | some (.dT ks vs) => .dct ks vs
      | some (.ins c vs) => .inst c vs
      | _ => .ref i) with
      | .tup _ => True
      | .kl _ => True
      | .scr _ => True
      | _ => False) := h
    split at h
    · rename_i hz; split at hz <;> cases hz
    · rename_i hz; split at hz <;> cases hz
    · rename_i hz; split at hz <;> cases hz
    · exact h.elim
  | _ => rfl
section
variable {C : Cfg} {K : PySem.W.Frag} {W : Wd} {H : Hp} {s : S}
/-- a list, whatever goes on -/
theorem gives_l {a : Addr} {w : Wk} (h : ∀ s, StS C K W H s → ∀ W' H' s', Le W H s W' H' s' → StS C K W' H' s' → w.same s' → ∃ vs, SqL K H' a vs ∧ RDs C K W' H' w.items vs) : Gives C K W H w (Itl K a) := fun s t W' H' s' l t' sm i => by
  obtain ⟨vs, g, r⟩ := h s t W' H' s' l t' sm
  refine ⟨fun e => ⟨vs, g, by rw [e, r.length]; exact Nat.le_refl _⟩, fun d hd => ?_⟩
  obtain ⟨v, hv, rv⟩ := r.get hd
  refine ⟨⟨vs, v, g, hv⟩, fun x H2 y => ?_⟩
  obtain ⟨rfl, y⟩ := y
  have e := y vs g
  rw [hv] at e
  cases e
  exact ⟨W', Le.refl, t', rv⟩
theorem gives_t {a : Addr} {w : Wk} (h : ∀ s, StS C K W H s → ∀ W' H' s', Le W H s W' H' s' → StS C K W' H' s' → w.same s' → ∃ vs, SqT K H' a vs ∧ RDs C K W' H' w.items vs) : Gives C K W H w (Itt K a) := fun s t W' H' s' l t' sm i => by
  obtain ⟨vs, g, r⟩ := h s t W' H' s' l t' sm
  refine ⟨fun e => ⟨vs, g, by rw [e, r.length]; exact Nat.le_refl _⟩, fun d hd => ?_⟩
  obtain ⟨v, hv, rv⟩ := r.get hd
  refine ⟨⟨vs, v, g, hv⟩, fun x H2 y => ?_⟩
  obtain ⟨rfl, y⟩ := y
  have e := y vs g
  rw [hv] at e
  cases e
  exact ⟨W', Le.refl, t', rv⟩
theorem gives_s {z : Str} : Gives C K W H ⟨signsD z, []⟩ (Its z) := fun s t W' H' s' l t' sm i => by
  have hl : (signsD z).length = z.cps.size := by unfold signsD; simp
  refine ⟨fun e => by
    have e : i = (signsD z).length := e
    show z.cps.size ≤ i
    rw [e, hl]; exact Nat.le_refl _, fun d hd => ?_⟩
  have hd : (signsD z)[i]? = some d := hd
  unfold signsD at hd
  rw [List.getElem?_map] at hd
  cases hc : z.cps.toList[i]? with
  | none => rw [hc] at hd; cases hd
  | some c =>
    rw [hc] at hd
    cases hd
    have hi : i < z.cps.size := by simpa using (List.getElem?_eq_some_iff.mp hc).1
    refine ⟨hi, fun x H2 y => ?_⟩
    obtain ⟨rfl, c', hc', rfl⟩ := y
    rw [← Array.getElem?_toList, hc] at hc'
    cases hc'
    exact ⟨W', Le.refl, t', rfl⟩
end
def ixSeq (a : Ex) : Ix := fun e s => (a e s).bind fun d s => match view s d with
  | .lst xs => .ok (wkD d xs) s
  | .tup xs => .ok ⟨xs, []⟩ s
  | .kl xs => .ok ⟨xs, []⟩ s
  | .scr ns => .ok ⟨ns.map .int, []⟩ s
  | .str z => .ok ⟨signsD z, []⟩ s
  | _ => .stuck
section
variable {C : Cfg} {X : Cx} {Wx : WX} {tg e : Expr} {fe : Ex} {pos p : Pos}
theorem Res.ok' {α β : Type} {R : Wd → Hp → α → β → Prop} {C : Cfg} {K : PySem.W.Frag} {σ : L2.St} {env : Env} {W : Wd} {H : Hp} {s s' : S} {a : α} {Q : β → Hp → Prop} (h : Res C K R Wx σ env W H s (.ok a s') Q) {W' : Wd} {H' : Hp} {b : β} (l : Le W H s W' H' s') (t : StE C K W' H' σ env s') (r : R W' H' a b) : Q b H' := h W' H' b l t r
theorem di_seq (h : DE C X Wx e fe) : DI C X Wx tg e (ixSeq fe) := PI.imp (PI.or (pi_list h) (PI.or (pi_tup h) (pi_str h))) fun σ H R q => by
  obtain ⟨W, env, s, e, q⟩ := q
  unfold ixSeq at q
  cases hf : fe env s with
  | exc c vs s1 =>
    rw [hf] at q
    exact .inl ⟨W, env, s, e, by rw [hf]; exact q⟩
  | stuck =>
    rw [hf] at q
    exact q.elim
  | ok d s1 =>
    rw [hf] at q
    have q : Res C X.K (Gives C X.K) Wx σ env W H s (match view s1 d with
      | .lst xs => .ok (wkD d xs) s1
      | .tup xs => .ok ⟨xs, []⟩ s1
      | .kl xs => .ok ⟨xs, []⟩ s1
      | .scr ns => .ok ⟨ns.map .int, []⟩ s1
      | .str z => .ok ⟨signsD z, []⟩ s1
      | _ => .stuck) R := q
    have viaL : ∀ xs w, lstD (view s1 d) = some xs → w.items = xs → (∀ s', w.same s' → view s' d = view s1 d) → Res C X.K (Gives C X.K) Wx σ env W H s (.ok w s1) R → iList X.K (tD C X.K Wx fe) σ H R := fun xs w e1 e2 e3 q => by
      refine ⟨W, env, s, e, ?_⟩
      rw [hf]
      intro W1 H1 v l1 t1 r1
      obtain ⟨a, vs, rfl, sq, rs⟩ := lst_of (see_of t1.st r1) e1
      refine ⟨a, rfl, ⟨vs, sq⟩, q.ok' l1 t1 (gives_l fun s2 t2 W' H' s' l t' sm => ?_)⟩
      have z := see_of t' (r1.mono l t2)
      rw [e3 s' sm] at z
      obtain ⟨a', vs', e4, sq', rs'⟩ := lst_of z e1
      cases e4
      rw [e2]
      exact ⟨vs', sq', rs'⟩
    cases hv : view s1 d with
    | lst xs =>
      rw [hv] at q
      exact .inl (viaL xs _ (by rw [hv]; rfl) rfl (fun s' sm => by rw [hv]; exact view_same hv sm) q)
    | scr ns =>
      rw [hv] at q
      exact .inl (viaL _ _ (by rw [hv]; rfl) rfl (fun s' sm => view_fix (by rw [hv]; trivial)) q)
    | kl xs =>
      rw [hv] at q
      exact .inl (viaL _ _ (by rw [hv]; rfl) rfl (fun s' sm => view_fix (by rw [hv]; trivial)) q)
    | tup xs =>
      rw [hv] at q
      refine .inr (.inl ⟨W, env, s, e, ?_⟩)
      rw [hf]
      intro W1 H1 v l1 t1 r1
      have z := see_of t1.st r1
      rw [hv] at z
      obtain ⟨a, vs, rfl, sq, rs⟩ := z
      refine ⟨a, rfl, ⟨vs, SqT.of sq⟩, q.ok' l1 t1 (gives_t fun s2 t2 W' H' s' l t' sm => ?_)⟩
      have z := see_of t' (r1.mono l t2)
      rw [view_fix (s := s1) (s' := s') (by rw [hv]; trivial), hv] at z
      obtain ⟨a', vs', e4, sq', rs'⟩ := z
      cases e4
      exact ⟨vs', SqT.of sq', rs'⟩
    | str z =>
      rw [hv] at q
      refine .inr (.inr ⟨W, env, s, e, ?_⟩)
      rw [hf]
      intro W1 H1 v l1 t1 r1
      have w := see_of t1.st r1
      rw [hv] at w
      exact ⟨z, w, q.ok' l1 t1 gives_s⟩
    | _ =>
      rw [hv] at q
      exact q.elim
end

/-! ### range -/
def rngD (lo : Int) (n : Nat) : List D := (List.range n).map fun i : Nat => .int (lo + i)
theorem rngD_get {lo : Int} {n i : Nat} {d : D} (h : (rngD lo n)[i]? = some d) : i < n ∧ d = .int (lo + i) := by
  unfold rngD at h
  rw [List.getElem?_map] at h
  cases hr : (List.range n)[i]? with
  | none => rw [hr] at h; cases h
  | some j =>
    rw [hr] at h
    cases h
    obtain ⟨h1, h2⟩ := List.getElem?_eq_some_iff.mp hr
    rw [List.getElem_range] at h2
    subst h2
    exact ⟨by simpa using h1, rfl⟩
theorem rngD_len {lo : Int} {n : Nat} : (rngD lo n).length = n := by
  unfold rngD
  rw [List.length_map, List.length_range]
theorem gives_r {C : Cfg} {K : PySem.W.Frag} {W : Wd} {H : Hp} {lo : Int} {n : Nat} : Gives C K W H ⟨rngD lo n, []⟩ (Itr lo n) := fun s t W' H' s' l t' sm i => by
  refine ⟨fun e => by
    have e : i = (rngD lo n).length := e
    rw [rngD_len] at e
    show n ≤ i
    omega, fun d hd => ?_⟩
  obtain ⟨h1, rfl⟩ := rngD_get hd
  refine ⟨h1, fun x H2 y => ?_⟩
  obtain ⟨rfl, rfl⟩ := y
  exact ⟨W', Le.refl, t', rfl⟩
def ixRng1 (a : Ax) : Ix := fun e s => (a e s).bind fun ds s => match ds.map (view s) with
  | [.int j] => if -(2 ^ 62) ≤ j ∧ j < 2 ^ 62 then .ok ⟨rngD 0 j.toNat, []⟩ s else .stuck
  | _ => .stuck
def ixRng2 (a : Ax) : Ix := fun e s => (a e s).bind fun ds s => match ds.map (view s) with
  | [.int i, .int j] => if -(2 ^ 62) ≤ i ∧ i < 2 ^ 62 ∧ -(2 ^ 62) ≤ j ∧ j < 2 ^ 62 then .ok ⟨rngD i (j - i).toNat, []⟩ s else .stuck
  | _ => .stuck
section
variable {C : Cfg} {X : Cx} {Wx : WX} {tg a b : Expr} {fa : Ax} {pos p : Pos}
theorem di_range1 (hg : Gl X "range") (hm : X.mg "range" = none) (ha : DA C X Wx [a] fa) (hs : starEach [a] X.env = [(false, eval a X.env)] := by rfl) : DI C X Wx tg (.Call (.Name "range" p) [a] [] pos) (ixRng1 fa) := PI.imp (pi_range1 hg hm ha hs) fun σ H R q => by
  obtain ⟨W, env, s, e, q⟩ := q
  refine ⟨W, env, s, e, Res.step q fun W1 H1 s1 ds vs l1 e1 h1 q1 => ?_⟩
  revert q1
  split
  · rename_i j hj
    have hl : ds.length = 1 := by rw [← List.length_map (f := view s1), hj]; rfl
    match ds, hl with
    | [d], _ =>
      obtain ⟨v, rfl, r⟩ := rds1 h1
      have z := see_of e1.st r
      have hj : [view s1 d] = [.int j] := hj
      injection hj with hj _
      rw [hj] at z
      split
      · rename_i hb
        exact fun q => ⟨j, by rw [show v = .int j from z], hb.1, hb.2, q.ok' Le.refl e1 gives_r⟩
      · exact fun q => q.elim
  · exact fun q => q.elim
theorem di_range2 (hg : Gl X "range") (hm : X.mg "range" = none) (ha : DA C X Wx [a, b] fa) (hs : starEach [a, b] X.env = [(false, eval a X.env), (false, eval b X.env)] := by rfl) (hs2 : starEach [b] X.env = [(false, eval b X.env)] := by rfl) :
    DI C X Wx tg (.Call (.Name "range" p) [a, b] [] pos) (ixRng2 fa) := PI.imp (pi_range2 hg hm ha hs hs2) fun σ H R q => by
  obtain ⟨W, env, s, e, q⟩ := q
  refine ⟨W, env, s, e, Res.step q fun W1 H1 s1 ds vs l1 e1 h1 q1 => ?_⟩
  revert q1
  split
  · rename_i i j hj
    have hl : ds.length = 2 := by rw [← List.length_map (f := view s1), hj]; rfl
    match ds, hl with
    | [d, d'], _ =>
      obtain ⟨v, u, rfl, r, r'⟩ := rds2 h1
      have z := see_of e1.st r
      have z' := see_of e1.st r'
      have hj : [view s1 d, view s1 d'] = [.int i, .int j] := hj
      injection hj with hi hj
      injection hj with hj _
      rw [hi] at z
      rw [hj] at z'
      split
      · rename_i hb
        exact fun q => ⟨i, j, by rw [show v = .int i from z, show u = .int j from z'], hb, q.ok' Le.refl e1 gives_r⟩
      · exact fun q => q.elim
  · exact fun q => q.elim
end

/-! ### enumerate, zip -/
def enumD (i : Nat) : List D → List D
  | [] => []
  | d :: ds => .tup [.int i, d] :: enumD (i + 1) ds
theorem enumD_get {d : D} : ∀ {ds : List D} {k i : Nat}, (enumD k ds)[i]? = some d → ∃ e, ds[i]? = some e ∧ d = .tup [.int ((k + i : Nat) : Int), e]
  | [], k, i, h => by cases i <;> cases h
  | e :: ds, k, 0, h => by
    cases h
    exact ⟨e, rfl, rfl⟩
  | e :: ds, k, i + 1, h => by
    obtain ⟨e', h1, h2⟩ := enumD_get (ds := ds) (k := k + 1) (i := i) h
    exact ⟨e', h1, by rw [h2]; congr 4; omega⟩
theorem enumD_len : ∀ (ds : List D) (k : Nat), (enumD k ds).length = ds.length
  | [], _ => rfl
  | d :: ds, k => by
    show (enumD (k + 1) ds).length + 1 = ds.length + 1
    rw [enumD_len ds]
def zipD : List D → List D → List D
  | a :: as, b :: bs => .tup [a, b] :: zipD as bs
  | _, _ => []
theorem zipD_get {d : D} : ∀ {as bs : List D} {i : Nat}, (zipD as bs)[i]? = some d → ∃ a b, as[i]? = some a ∧ bs[i]? = some b ∧ d = .tup [a, b]
  | [], bs, i, h => by cases bs <;> cases i <;> cases h
  | a :: as, [], i, h => by cases i <;> cases h
  | a :: as, b :: bs, 0, h => by
    cases h
    exact ⟨a, b, rfl, rfl, rfl⟩
  | a :: as, b :: bs, i + 1, h => zipD_get (as := as) (bs := bs) (i := i) h
theorem zipD_len : ∀ as bs : List D, (zipD as bs).length = min as.length bs.length
  | [], bs => by cases bs <;> simp [zipD]
  | a :: as, [] => by simp [zipD]
  | a :: as, b :: bs => by
    show (zipD as bs).length + 1 = min (as.length + 1) (bs.length + 1)
    rw [zipD_len as bs]
    omega
section
variable {C : Cfg} {K : PySem.W.Frag} {W : Wd} {H : Hp} {s : S}
theorem fresh_tup {T : Addr} {xs : List D} {vs : List V} (t : StS C K W H s) (hT : H T = none) (r : RDs C K W H xs vs) : ∃ W2, Le W H s W2 (L2.upd H T (.tup vs)) s ∧ StS C K W2 (L2.upd H T (.tup vs)) s ∧ RD C K W2 (L2.upd H T (.tup vs)) (.tup xs) (.ref T) := by
  have l : Le W H s (W.add T) (L2.upd H T (.tup vs)) s := Le.laid t hT
  exact ⟨W.add T, l, t.laid hT (fun _ z => nomatch z), T, vs, rfl, .inr rfl, upd_same, r.mono l t⟩
theorem gives_e {a : Addr} {xs : List D} {src : List (Nat × List D)} (h : ∀ s, StS C K W H s → ∀ W' H' s', Le W H s W' H' s' → StS C K W' H' s' → (∀ p ∈ src, s'.mo[p.1]? = some (.lst p.2)) → ∃ vs, SqL K H' a vs ∧ RDs C K W' H' xs vs) :
    Gives C K W H ⟨enumD 0 xs, src⟩ (Ite K a) := fun s t W' H' s' l t' sm i => by
  obtain ⟨vs, g, r⟩ := h s t W' H' s' l t' sm
  refine ⟨fun e => ⟨vs, g, ?_⟩, fun d hd => ?_⟩
  · have e : i = (enumD 0 xs).length := e
    rw [enumD_len, r.length] at e
    omega
  · have hd : (enumD 0 xs)[i]? = some d := hd
    obtain ⟨d', h1, rfl⟩ := enumD_get hd
    obtain ⟨v, hv, rv⟩ := r.get h1
    refine ⟨⟨vs, v, g, hv⟩, fun x H2 y => ?_⟩
    obtain ⟨T, x', rfl, hT, rfl, y⟩ := y
    have e := y vs g
    rw [hv] at e
    cases e
    rw [Nat.zero_add]
    exact fresh_tup t' hT ⟨.int (i : Nat), [v], rfl, rfl, v, [], rfl, rv, rfl⟩
theorem gives_z {a b : Addr} {xs ys : List D} {src : List (Nat × List D)} (h : ∀ s, StS C K W H s → ∀ W' H' s', Le W H s W' H' s' → StS C K W' H' s' → (∀ p ∈ src, s'.mo[p.1]? = some (.lst p.2)) → ∃ vs us, SqL K H' a vs ∧ SqL K H' b us ∧ RDs C K W' H' xs vs ∧ RDs C K W' H' ys us) :
    Gives C K W H ⟨zipD xs ys, src⟩ (Itz K a b) := fun s t W' H' s' l t' sm i => by
  obtain ⟨vs, us, g, g', r, r'⟩ := h s t W' H' s' l t' sm
  refine ⟨fun e => ⟨vs, us, g, g', ?_⟩, fun d hd => ?_⟩
  · have e : i = (zipD xs ys).length := e
    rw [zipD_len, r.length, r'.length] at e
    omega
  · have hd : (zipD xs ys)[i]? = some d := hd
    obtain ⟨d1, d2, h1, h2, rfl⟩ := zipD_get hd
    obtain ⟨v, hv, rv⟩ := r.get h1
    obtain ⟨u, hu, ru⟩ := r'.get h2
    refine ⟨⟨vs, us, v, u, g, g', hv, hu⟩, fun x H2 y => ?_⟩
    obtain ⟨T, x', y', rfl, hT, rfl, y1, y2⟩ := y
    have e := y1 vs g
    rw [hv] at e
    cases e
    have e := y2 us g'
    rw [hu] at e
    cases e
    exact fresh_tup t' hT ⟨v, [u], rfl, rv, u, [], rfl, ru, rfl⟩
theorem gives_zt {a b : Addr} {xs ys : List D} {src : List (Nat × List D)} (h : ∀ s, StS C K W H s → ∀ W' H' s', Le W H s W' H' s' → StS C K W' H' s' → ∃ vs us, SqT K H' a vs ∧ SqT K H' b us ∧ RDs C K W' H' xs vs ∧ RDs C K W' H' ys us) :
    Gives C K W H ⟨zipD xs ys, src⟩ (RZ.ItzT K a b) := fun s t W' H' s' l t' sm i => by
  obtain ⟨vs, us, g, g', r, r'⟩ := h s t W' H' s' l t'
  refine ⟨fun e => ⟨vs, us, g, g', ?_⟩, fun d hd => ?_⟩
  · have e : i = (zipD xs ys).length := e
    rw [zipD_len, r.length, r'.length] at e
    omega
  · have hd : (zipD xs ys)[i]? = some d := hd
    obtain ⟨d1, d2, h1, h2, rfl⟩ := zipD_get hd
    obtain ⟨v, hv, rv⟩ := r.get h1
    obtain ⟨u, hu, ru⟩ := r'.get h2
    refine ⟨⟨vs, us, v, u, g, g', hv, hu⟩, fun x H2 y => ?_⟩
    obtain ⟨T, x', y', rfl, hT, rfl, y1, y2⟩ := y
    have e := y1 vs g
    rw [hv] at e
    cases e
    have e := y2 us g'
    rw [hu] at e
    cases e
    exact fresh_tup t' hT ⟨v, [u], rfl, rv, u, [], rfl, ru, rfl⟩
end
/-- items of a list, and what must stand still -/
def lsD (s : S) (d : D) : Option (List D × List (Nat × List D)) := match view s d with
  | .lst xs => some (xs, srcD d xs)
  | .kl xs => some (xs, [])
  | .scr ns => some (ns.map .int, [])
  | _ => none
theorem lsD_of {s : S} {d : D} {x : List D × List (Nat × List D)} (h : lsD s d = some x) : lstD (view s d) = some x.1 ∧ ∀ s', (∀ p ∈ x.2, s'.mo[p.1]? = some (.lst p.2)) → view s' d = view s d := by
  unfold lsD at h
  cases hv : view s d with
  | lst xs =>
    rw [hv] at h
    cases h
    exact ⟨rfl, fun s' sm => view_same hv sm⟩
  | kl xs =>
    rw [hv] at h
    cases h
    exact ⟨rfl, fun s' sm => by rw [← hv]; exact view_fix (by rw [hv]; trivial)⟩
  | scr xs =>
    rw [hv] at h
    cases h
    exact ⟨rfl, fun s' sm => by rw [← hv]; exact view_fix (by rw [hv]; trivial)⟩
  | _ =>
    rw [hv] at h
    cases h
def ixEnum (a : Ax) : Ix := fun e s => (a e s).bind fun ds s => match ds with
  | [d] => (match lsD s d with
    | some x => .ok ⟨enumD 0 x.1, x.2⟩ s
    | none => .stuck)
  | _ => .stuck
def zipIx (s : S) (a b : D) : Out Wk := match lsD s a, lsD s b with
  | some x, some y => .ok ⟨zipD x.1 y.1, x.2 ++ y.2⟩ s
  | _, _ => match view s a, view s b with
    | .tup xs, .tup ys => .ok ⟨zipD xs ys, []⟩ s
    | _, _ => .stuck
def ixZip (a : Ax) : Ix := fun e s => (a e s).bind fun ds s => match ds with
  | [d, d'] => zipIx s d d'
  | _ => .stuck
section
variable {C : Cfg} {X : Cx} {Wx : WX} {tg a b : Expr} {fa : Ax} {pos p tpos : Pos} {elts : List Expr} {kk : Nat}
theorem di_enum (hg : Gl X "enumerate") (hm : X.mg "enumerate" = none) (ha : DA C X Wx [a] fa) (hs : starEach [a] X.env = [(false, eval a X.env)] := by rfl) :
    DI C X Wx (.Tuple elts kk tpos) (.Call (.Name "enumerate" p) [a] [] pos) (ixEnum fa) := PI.imp (pi_enum hg hm ha hs) fun σ H R q => by
  obtain ⟨W, env, s, e, q⟩ := q
  refine ⟨W, env, s, e, Res.step q fun W1 H1 s1 ds vs l1 e1 h1 q1 => ?_⟩
  revert q1
  match ds, h1 with
  | [], _ => exact fun q => q.elim
  | _ :: _ :: _, _ => exact fun q => q.elim
  | [d], h1 =>
    intro q
    have q : Res C X.K (Gives C X.K) Wx σ env W1 H1 s1 (match lsD s1 d with
      | some x => Out.ok ⟨enumD 0 x.1, x.2⟩ s1
      | none => .stuck) R := q
    obtain ⟨v, rfl, r⟩ := rds1 h1
    cases hx : lsD s1 d with
    | none => rw [hx] at q; exact q.elim
    | some x =>
      rw [hx] at q
      obtain ⟨k1, k2⟩ := lsD_of hx
      obtain ⟨a, us, rfl, sq, rs⟩ := lst_of (see_of e1.st r) k1
      refine ⟨a, us, rfl, sq, q.ok' Le.refl e1 (gives_e fun s2 t2 W' H' s' l t' sm => ?_)⟩
      have z := see_of t' (r.mono l t2)
      rw [k2 s' sm] at z
      obtain ⟨a', vs', e4, sq', rs'⟩ := lst_of z k1
      cases e4
      exact ⟨vs', sq', rs'⟩
theorem di_zip (hg : Gl X "zip") (hm : X.mg "zip" = none) (ha : DA C X Wx [a, b] fa) (hs : starEach [a, b] X.env = (false, eval a X.env) :: starEach [b] X.env := by rfl) (hpl : (backTo pos (starEach [b] X.env)).any (·.1) = false := by rfl) :
    DI C X Wx (.Tuple elts kk tpos) (.Call (.Name "zip" p) [a, b] [] pos) (ixZip fa) := PI.imp (RZ.pi_zipA hg hm ha hs hpl) fun σ H R q => by
  obtain ⟨W, env, s, e, q⟩ := q
  refine ⟨W, env, s, e, Res.step q fun W1 H1 s1 ds vs l1 e1 h1 q1 => ?_⟩
  revert q1
  match ds, h1 with
  | [], _ => exact fun q => q.elim
  | [_], _ => exact fun q => q.elim
  | _ :: _ :: _ :: _, _ => exact fun q => q.elim
  | [d, d'], h1 =>
    intro q
    have q : Res C X.K (Gives C X.K) Wx σ env W1 H1 s1 (zipIx s1 d d') R := q
    obtain ⟨v, u, rfl, r, r'⟩ := rds2 h1
    have tupc : ∀ xs ys, view s1 d = .tup xs → view s1 d' = .tup ys → Res C X.K (Gives C X.K) Wx σ env W1 H1 s1 (Out.ok (Wk.mk (zipD xs ys) []) s1) R → ∃ a b zs ys, [v, u] = [V.ref a, V.ref b] ∧ ((SqL X.K H1 a zs ∧ SqL X.K H1 b ys ∧ R (Itz X.K a b) H1) ∨ (SqT X.K H1 a zs ∧ SqT X.K H1 b ys ∧ R (RZ.ItzT X.K a b) H1)) := fun xs ys ex ey q => by
      have z := see_of e1.st r
      have z' := see_of e1.st r'
      rw [ex] at z
      rw [ey] at z'
      obtain ⟨a, us, rfl, sq, rs⟩ := z
      obtain ⟨a', us', rfl, sq', rs'⟩ := z'
      refine ⟨a, a', us, us', rfl, .inr ⟨SqT.of sq, SqT.of sq', q.ok' Le.refl e1 (gives_zt fun s2 t2 W' H' s' l t' => ?_)⟩⟩
      have z := see_of t' (r.mono l t2)
      have z' := see_of t' (r'.mono l t2)
      rw [view_fix (s := s1) (s' := s') (by rw [ex]; trivial), ex] at z
      rw [view_fix (s := s1) (s' := s') (by rw [ey]; trivial), ey] at z'
      obtain ⟨b1, ws, e4, g1, g2⟩ := z
      obtain ⟨b2, ws', e5, g3, g4⟩ := z'
      cases e4
      cases e5
      exact ⟨ws, ws', SqT.of g1, SqT.of g3, g2, g4⟩
    unfold zipIx at q
    split at q
    · rename_i x y hx hy
      obtain ⟨k1, k2⟩ := lsD_of hx
      obtain ⟨k3, k4⟩ := lsD_of hy
      obtain ⟨a, us, rfl, sq, rs⟩ := lst_of (see_of e1.st r) k1
      obtain ⟨a', us', rfl, sq', rs'⟩ := lst_of (see_of e1.st r') k3
      refine ⟨a, a', us, us', rfl, .inl ⟨sq, sq', q.ok' Le.refl e1 (gives_z fun s2 t2 W' H' s' l t' sm => ?_)⟩⟩
      have z := see_of t' (r.mono l t2)
      have z' := see_of t' (r'.mono l t2)
      rw [k2 s' fun p hp => sm p (List.mem_append_left _ hp)] at z
      rw [k4 s' fun p hp => sm p (List.mem_append_right _ hp)] at z'
      obtain ⟨b1, ws, e4, g1, g2⟩ := lst_of z k1
      obtain ⟨b2, ws', e5, g3, g4⟩ := lst_of z' k3
      cases e4
      cases e5
      exact ⟨ws, ws', g1, g3, g2, g4⟩
    · split at q
      · rename_i xs ys ex ey
        exact tupc xs ys ex ey q
      · exact q.elim
end
end DV
end
section
set_option Elab.async false
set_option linter.all false
set_option maxRecDepth 100000
/-! DU: all, any, sum, str, int, sorted, isinstance; methods and items of what changes. -/
namespace DV
open PySem PySem.Spec PyProof.Rows L2

/-! ### all, any, sum, str, int, abs -/
def blsD : List D → Option (List Bool)
  | [] => some []
  | d :: ds => match d.strip, blsD ds with
    | .bl b, some bs => some (b :: bs)
    | _, _ => none
def intsD : List D → Option (List Int)
  | [] => some []
  | d :: ds => match d.strip, intsD ds with
    | .int b, some bs => some (b :: bs)
    | _, _ => none
section
variable {C : Cfg} {K : PySem.W.Frag} {W : Wd} {H : Hp}
theorem blsD_rd : ∀ {ds : List D} {vs : List V} {bs : List Bool}, RDs C K W H ds vs → blsD ds = some bs → vs = bs.map V.bl
  | [], vs, bs, r, h => by
    cases h
    exact r
  | d :: ds, vs, bs, r, h => by
    obtain ⟨v, rs, rfl, h1, h2⟩ := r
    unfold blsD at h
    split at h
    · rename_i b bs' hd hb
      cases h
      have z := h1.strip
      rw [hd] at z
      rw [show v = .bl b from z, blsD_rd h2 hb]
      rfl
    · cases h
theorem intsD_rd : ∀ {ds : List D} {vs : List V} {bs : List Int}, RDs C K W H ds vs → intsD ds = some bs → vs = bs.map V.int
  | [], vs, bs, r, h => by
    cases h
    exact r
  | d :: ds, vs, bs, r, h => by
    obtain ⟨v, rs, rfl, h1, h2⟩ := r
    unfold intsD at h
    split at h
    · rename_i b bs' hd hb
      cases h
      have z := h1.strip
      rw [hd] at z
      rw [show v = .int b from z, intsD_rd h2 hb]
      rfl
    · cases h
end
def gAll (s : S) (d : D) : Option D := ((lstD (view s d)).bind blsD).map fun bs => .bl (bs.all id)
def gAny (s : S) (d : D) : Option D := ((lstD (view s d)).bind blsD).map fun bs => .bl (bs.any id)
def gSum (s : S) (d : D) : Option D := ((lstD (view s d)).bind intsD).map fun bs => .int bs.sum
def gStr (s : S) (d : D) : Option D := match view s d with
  | .int i => if i.natAbs.log2 < 1920 then some (.str (toString i)) else none
  | .str x => some (.str x)
  | _ => none
def gInt1 (s : S) (d : D) : Option D := match view s d with
  | .int i => some (.int i)
  | .bl k => some (.int (if k then 1 else 0))
  | _ => none
def gAbs (s : S) (d : D) : Option D := match view s d with
  | .int i => some (.int (if i < 0 then -i else i))
  | _ => none
section
variable {C : Cfg} {X : Cx}
theorem c_all (hc : X.calm = true) : CallR X (.builtin "all") (rc C X.K (f1 gAll)) := CallR.r1 (cr_all hc) fun W s d z v H Q t r h q => by
  have sd := see_of t r
  unfold gAll at h
  cases hs : lstD (view s d) with
  | none => rw [hs] at h; cases h
  | some xs =>
    rw [hs] at h
    obtain ⟨a, vs, rfl, l, rs⟩ := lst_of sd hs
    have h : (blsD xs).map (fun bs => D.bl (bs.all id)) = some z := h
    cases hb : blsD xs with
    | none => rw [hb] at h; cases h
    | some bs =>
      rw [hb] at h
      cases h
      exact ⟨a, bs, rfl, by rw [← blsD_rd rs hb]; exact l, same_q t q rfl⟩
theorem c_any (hc : X.calm = true) : CallR X (.builtin "any") (rc C X.K (f1 gAny)) := CallR.r1 (cr_any hc) fun W s d z v H Q t r h q => by
  have sd := see_of t r
  unfold gAny at h
  cases hs : lstD (view s d) with
  | none => rw [hs] at h; cases h
  | some xs =>
    rw [hs] at h
    obtain ⟨a, vs, rfl, l, rs⟩ := lst_of sd hs
    have h : (blsD xs).map (fun bs => D.bl (bs.any id)) = some z := h
    cases hb : blsD xs with
    | none => rw [hb] at h; cases h
    | some bs =>
      rw [hb] at h
      cases h
      exact ⟨a, bs, rfl, by rw [← blsD_rd rs hb]; exact l, same_q t q rfl⟩
theorem c_sum (hc : X.calm = true) : CallR X (.builtin "sum") (rc C X.K (f1 gSum)) := CallR.r1 (cr_sum hc) fun W s d z v H Q t r h q => by
  have sd := see_of t r
  unfold gSum at h
  cases hs : lstD (view s d) with
  | none => rw [hs] at h; cases h
  | some xs =>
    rw [hs] at h
    obtain ⟨a, vs, rfl, l, rs⟩ := lst_of sd hs
    have h : (intsD xs).map (fun bs => D.int bs.sum) = some z := h
    cases hb : intsD xs with
    | none => rw [hb] at h; cases h
    | some bs =>
      rw [hb] at h
      cases h
      exact ⟨a, bs, rfl, by rw [← intsD_rd rs hb]; exact l, same_q t q rfl⟩
theorem c_str : CallR X (.type "str") (rc C X.K (f1 gStr)) := CallR.r1 (call_str_int.or SkE.call_str_str) fun W s d z v H Q t r h q => by
  have sd := see_of t r
  unfold gStr at h
  split at h
  · rename_i i hi
    rw [hi] at sd
    split at h
    · rename_i hl
      cases h
      exact .inl ⟨i, by rw [show v = .int i from sd], hl, same_q t q rfl⟩
    · cases h
  · rename_i i hi
    rw [hi] at sd
    cases h
    exact .inr ⟨i, by rw [show v = .str i from sd], same_q t q rfl⟩
  · cases h
theorem c_int : CallR X (.type "int") (rc C X.K (f1 gInt1)) := CallR.r1 call_int1 fun W s d z v H Q t r h q => by
  have sd := see_of t r
  unfold gInt1 at h
  split at h
  · rename_i i hi
    rw [hi] at sd
    cases h
    exact .inl ⟨i, by rw [show v = .int i from sd], same_q t q rfl⟩
  · rename_i i hi
    rw [hi] at sd
    cases h
    exact .inr ⟨i, by rw [show v = .bl i from sd], same_q t q rfl⟩
  · cases h
theorem c_abs : CallR X (.builtin "abs") (rc C X.K (f1 gAbs)) := CallR.r1 call_abs fun W s d z v H Q t r h q => by
  have sd := see_of t r
  unfold gAbs at h
  split at h
  · rename_i i hi
    rw [hi] at sd
    cases h
    exact ⟨i, by rw [show v = .int i from sd], same_q t q rfl⟩
  · cases h
end

/-! ### sorted -/
def D.pd0 (d : D) : PyData := d.pd.getD .none
def leD : D → D → Bool := PySem.W.dataLe false D.pd0
structure SortOk (xs : List D) : Prop where
  pd : ∀ d ∈ xs, d.pd = some d.pd0
  al : PySem.W.AllAlike (xs.map D.pd0)
  so : PySem.W.Sortable (xs.map D.pd0)
  ln : xs.length ≤ sizeLine
  dp : ∀ d ∈ xs, d.pd0.depth ≤ 60
noncomputable instance (xs : List D) : Decidable (SortOk xs) := Classical.propDecidable _
noncomputable def gSorted (s : S) (d : D) : Option (List D) := (lstD (view s d)).bind fun xs => if SortOk xs then some (xs.mergeSort leD) else none
section
variable {C : Cfg} {K : PySem.W.Frag} {W : Wd} {H : Hp}
theorem each_rd {X : Cx} {pins : List (Addr × Obj)} {σ : L2.St} {sh : Shared} (I : Inv X pins σ H sh) : ∀ {xs : List D} {vs : List V} {us : List Value}, RDs C X.K W H xs vs → Vals vs us → (∀ d ∈ xs, d.pd = some d.pd0) →
    PySem.W.EachIs (fun u (b : D × V) => RelV b.2 u ∧ RD C X.K W H b.1 b.2) us (xs.zip vs) ∧ PySem.W.EachIs (fun u (b : D × V) => ∃ as, Reads sh.heap u (b.1.pd0) as) us (xs.zip vs)
  | [], vs, us, r, h, _ => by
    have e : vs = [] := r
    subst e
    cases h
    exact ⟨.nil, .nil⟩
  | d :: xs, vs, us, r, h, hp => by
    obtain ⟨v, rs, rfl, h1, h2⟩ := r
    cases h with
    | cons k1 k2 =>
      obtain ⟨z1, z2⟩ := each_rd I h2 k2 fun d hd => hp d (List.mem_cons_of_mem _ hd)
      exact ⟨.cons ⟨k1, h1⟩ z1, .cons (Dp.reads I _ _ _ (dp_of h1 (hp d List.mem_cons_self)) k1) z2⟩
theorem each_back : ∀ {us : List Value} {bs : List (D × V)}, PySem.W.EachIs (fun u (b : D × V) => RelV b.2 u ∧ RD C K W H b.1 b.2) us bs → Vals (bs.map (·.2)) us ∧ RDs C K W H (bs.map (·.1)) (bs.map (·.2))
  | _, _, .nil => ⟨.nil, rfl⟩
  | _, _, .cons ⟨h1, h2⟩ t => by
    obtain ⟨z1, z2⟩ := each_back t
    exact ⟨.cons h1 z1, _, _, rfl, h2, z2⟩
theorem zip_fst : ∀ {xs : List D} {vs : List V}, RDs C K W H xs vs → (xs.zip vs).map (·.1) = xs
  | [], vs, r => rfl
  | d :: xs, vs, r => by
    obtain ⟨v, rs, rfl, h1, h2⟩ := r
    show d :: (xs.zip rs).map (·.1) = d :: xs
    rw [zip_fst h2]
end
theorem c_sorted {C : Cfg} {X : Cx} (hu : X.A.units + 64 < cLine) : CallR X (.builtin "sorted") (rcN C X.K (fn1 gSorted)) := fun pins sh σ H xs us Q I r h => by
  obtain ⟨W, s, ds, t, rds, q⟩ := h
  match ds, rds, q with
  | [], _, q => exact q.elim
  | _ :: _ :: _, _, q => exact q.elim
  | [d], rds, q =>
    obtain ⟨v, rfl, r1⟩ := rds1 rds
    have q : (match gSorted s d with
      | some xs => ∀ W' H' p ws, Le W H s W' H' s → StS C X.K W' H' s → ¬ W'.F p → p ∉ W'.al → H p = none → H' p = some (.lst ws) → RDs C X.K W' H' xs ws → Q (.ref p) H'
      | none => False) := q
    unfold gSorted at q
    cases hs : lstD (view s d) with
    | none => rw [hs] at q; exact q.elim
    | some ys =>
      rw [hs] at q
      have q : (match (if SortOk ys then some (ys.mergeSort leD) else none) with
        | some xs => ∀ W' H' p ws, Le W H s W' H' s → StS C X.K W' H' s → ¬ W'.F p → p ∉ W'.al → H p = none → H' p = some (.lst ws) → RDs C X.K W' H' xs ws → Q (.ref p) H'
        | none => False) := q
      by_cases ok : SortOk ys
      · rw [if_pos ok] at q
        obtain ⟨a, vs, rfl, sq, rs⟩ := lst_of (see_of t r1) hs
        obtain ⟨its, rv, hl, hz⟩ := I.list sq
        rw [Vals.ref1 r]
        obtain ⟨e1, e2⟩ := each_rd I rs rv ok.pd
        have ef := zip_fst rs
        have len : (ys.zip vs).length = ys.length := by rw [List.length_zip, rs.length, Nat.min_self]
        have em : (ys.zip vs).map (fun b => b.1.pd0) = ys.map D.pd0 := by
          exact (List.map_map (g := D.pd0) (f := fun b : D × V => b.1)).symm.trans (by rw [ef])
        refine PySem.W.sorted_data (enc := fun b : D × V => b.1.pd0) hl.isList e1 e2 (by rw [em]; exact ok.al) (by rw [em]; exact ok.so) (by rw [len]; exact ok.ln) (fun b hb => ?_) fun out ho eo => ?_
        · have hb2 : b.1 ∈ ys := by
            rw [← ef]
            exact List.mem_map.mpr ⟨b, hb, rfl⟩
          have := ok.dp _ hb2
          omega
        · obtain ⟨z1, z2⟩ := each_back eo
          have ms : ((ys.zip vs).mergeSort (PySem.W.dataLe false fun b : D × V => b.1.pd0)).map (·.1) = ys.mergeSort leD := by
            exact (List.map_mergeSort (r := PySem.W.dataLe false fun b : D × V => b.1.pd0) (s := leD) (f := fun b : D × V => b.1) (fun a _ b _ => rfl)).trans (by rw [ef])
          rw [ms] at z2
          obtain ⟨ep, he'⟩ := PyProof.Rows.sortedAll_at sh.heap its out.toArray
          have hn : H (sh.heap.objs.size + 1) = none := I.hok.fresh (Nat.le_succ _)
          have hlen : ((((ys.zip vs).mergeSort (PySem.W.dataLe false fun b : D × V => b.1.pd0))).map (·.2)).length ≤ sizeLine := by
            rw [List.length_map, List.length_mergeSort, len]
            exact ok.ln
          have he2 : (sortedAll sh.heap its out.toArray).get? (sh.heap.objs.size + 1) = some { cls := .type "list", data := .seq out.toArray ep } := he'
          exact ⟨.ref _, _, I.laid (t' := sh.toks) (o := .lst ((((ys.zip vs).mergeSort (PySem.W.dataLe false fun b : D × V => b.1.pd0))).map (·.2))) (fun _ _ => PyProof.Rows.sortedAll_old) (Nat.le_succ _) ⟨hlen, out, ep, z1, he2⟩, rfl, new_r t z2 q _ hn⟩
      · rw [if_neg ok] at q
        exact q.elim

/-! ### isinstance -/
def tyD : D → Option String
  | .non => some "NoneType"
  | .bl _ => some "bool"
  | .int _ => some "int"
  | .str _ => some "str"
  | .lst _ => some "list"
  | .scr _ => some "list"
  | .kl _ => some "list"
  | .tup _ => some "tuple"
  | .dct _ _ => some "dict"
  | _ => none
abbrev tyNames : List String := ["NoneType", "bool", "int", "str", "list", "tuple", "dict"]
theorem tyD_mem {d : D} {n : String} (h : tyD d = some n) : n ∈ tyNames := by
  unfold tyD at h
  split at h <;> cases h <;> simp
/-- which types; and of the module's own classes -/
def gIsi (tb : String → Bool) (cb : Nat → Option Bool) (s : S) (d : D) : Option D := match view s d with
  | .inst c _ => (cb c).map .bl
  | v => (tyD v).map fun n => .bl (tb n)
theorem ty_of {C : Cfg} {K : PySem.W.Frag} {W : Wd} {H : Hp} {d : D} {v : V} {n : String} (r : See C K W H d v) (h : tyD d = some n) : TyX K H v (.type n) := by
  cases d with
  | non => cases h; rw [show v = .non from r]; exact .base .non
  | bl b => cases h; rw [show v = .bl b from r]; exact .base (.bl b)
  | int b => cases h; rw [show v = .int b from r]; exact .base (.int b)
  | str b => cases h; rw [show v = .str b from r]; exact .base (.str b)
  | lst xs => cases h; obtain ⟨a, vs, rfl, l, _⟩ := r; exact .base (.lst l)
  | tup xs => cases h; obtain ⟨a, vs, rfl, l, _⟩ := r; exact .base (.tup l)
  | scr xs => cases h; obtain ⟨a, rfl, _, l⟩ := r; exact l.elim (fun l => .base (.lst l)) fun ⟨o, l⟩ => .base (.frz l)
  | kl xs => cases h; obtain ⟨a, vs, rfl, ⟨o, its, n, l1, l2, _⟩, _⟩ := r; exact .kList l1 l2
  | dct ks vs =>
    cases h
    obtain ⟨a, ws, rfl, l, _⟩ := r
    rcases l with ⟨kvs, l, _⟩ | ⟨kvs, l, _⟩
    · exact .base (.dK l)
    · exact .base (.dT l)
  | _ => cases h
/-- what isinstance asks of an own class -/
structure IsiC (K : PySem.W.Frag) (a : Addr) : Prop where
  cl : Cls K a
  ha : PySem.W.findIn K (.ref a) "__class__" = some (some (.builtin "object.__class__"))
  hn : PySem.W.specialIn K (.builtin "object.__class__") "__get__" = some (some (.builtin "getset_descriptor.__get__"))
  htk : PySem.W.takesIn K (.builtin "object.__class__") = some true
  hm : PySem.W.mroIn K a (.type "object") = some true
section
variable {C : Cfg} {X : Cx} {Wx : WX} {a : Expr} {fa : Ex} {pos p : Pos}
theorem isi_ty {tb : String → Bool} {cb : Nat → Option Bool} {us : List Value} {W : Wd} {H : Hp} {s : S} {d z : D} {v : V} (hT : ∀ n ∈ tyNames, PySem.W.kitAny X.K (.type n) us = some (tb n)) (hC : ∀ c b, cb c = some b → PySem.W.kitAny X.K (.ref (C.ca c)) us = some b ∧ IsiC X.K (C.ca c))
    (t : StS C X.K W H s) (r : RD C X.K W H d v) (h : gIsi tb cb s d = some z) : ∃ ty b, z = .bl b ∧ TyX X.K H v ty ∧ PySem.W.kitAny X.K ty us = some b := by
  have sd := see_of t r
  unfold gIsi at h
  split at h
  · rename_i c vs hv
    rw [hv] at sd
    cases hb : cb c with
    | none => rw [hb] at h; cases h
    | some b =>
      rw [hb] at h
      cases h
      obtain ⟨k, ⟨c1, c2, c3, c4, c5⟩⟩ := hC c b hb
      obtain ⟨a, dx, ws, rfl, l, _⟩ := sd
      exact ⟨_, b, rfl, .base (.ins l c1 c2 c3 c4 c5), k⟩
  · cases ht : tyD (view s d) with
    | none => rw [ht] at h; cases h
    | some n =>
      rw [ht] at h
      cases h
      exact ⟨_, _, rfl, ty_of sd ht, hT n (tyD_mem ht)⟩
/-- isinstance(x, T) -/
theorem de_isi {tb : String → Bool} {cb : Nat → Option Bool} {c : Expr} {cv : V} {u : Value} (hg : Gl X "isinstance") (hm : X.mg "isinstance" = none) (ha : DE C X Wx a fa) (hc : PE X c (tC cv)) (hk : ClsV cv u)
    (hT : ∀ n ∈ tyNames, PySem.W.kitAny X.K (.type n) [u] = some (tb n)) (hC : ∀ c b, cb c = some b → PySem.W.kitAny X.K (.ref (C.ca c)) [u] = some b ∧ IsiC X.K (C.ca c))
    (hs1 : starEach [a, c] X.env = (false, eval a X.env) :: starEach [c] X.env := by rfl) (hs2 : starEach [c] X.env = (false, eval c X.env) :: starEach [] X.env := by rfl) (hpl : (backTo pos (starEach [c] X.env)).any (·.1) = false := by rfl) :
    DE C X Wx (.Call (.Name "isinstance" p) [a, c] [] pos) (xUn (gIsi tb cb) fa) :=
  PE.imp (pe_callB call_isi hg hm (by decide +kernel) (pa_cons ha (pa_cons hc pa_nil hs2) hs1) (he := hs1) (hpl := hpl)) fun σ H Q h => by
    obtain ⟨W, env, s, e, q⟩ := h
    refine ⟨W, env, s, e, Res.step q fun W1 H1 s1 d x l1 e1 h1 q1 => ?_⟩
    revert q1
    unfold Out.of
    cases hz : gIsi tb cb s1 d with
    | none => exact fun q => q.elim
    | some z =>
      intro q
      obtain ⟨ty, b, rfl, t1, t2⟩ := isi_ty hT hC e1.st h1 hz
      refine ⟨x, cv, ty, u, b, rfl, hk, t1, ?_, q.ok' Le.refl e1 rfl⟩
      unfold PySem.W.kitAny at t2
      split at t2
      · rename_i k; cases t2; exact k
      · rename_i k; cases t2; exact k
      · cases t2
/-- isinstance(x, (T, ..)) -/
theorem de_isiT {tb : String → Bool} {cb : Nat → Option Bool} {cs : List Expr} {cvs : List V} {us : List Value} {kt : Nat} {tpos : Pos} (hg : Gl X "isinstance") (hm : X.mg "isinstance" = none) (ha : DE C X Wx a fa) (hk : Paired ClsV cvs us)
    (hz : cvs.length ≤ sizeLine)
    (hT : ∀ n ∈ tyNames, PySem.W.kitAny X.K (.type n) us = some (tb n)) (hC : ∀ c b, cb c = some b → PySem.W.kitAny X.K (.ref (C.ca c)) us = some b ∧ IsiC X.K (C.ca c))
    (hs1 : starEach [a, .Tuple cs kt tpos] X.env = (false, eval a X.env) :: starEach [.Tuple cs kt tpos] X.env := by rfl) (hs2 : starEach [.Tuple cs kt tpos] X.env = (false, eval (.Tuple cs kt tpos) X.env) :: starEach [] X.env := by rfl) (hpl : (backTo pos (starEach [.Tuple cs kt tpos] X.env)).any (·.1) = false := by rfl)
    (hcs : PA X cs (fun σ H Q => Q cvs H)) :
    DE C X Wx (.Call (.Name "isinstance" p) [a, .Tuple cs kt tpos] [] pos) (xUn (gIsi tb cb) fa) :=
  PE.imp (pe_callB call_isiT hg hm (by decide +kernel) (pa_cons ha (pa_cons (pe_tup hcs) pa_nil hs2) hs1) (he := hs1) (hpl := hpl)) fun σ H Q h => by
    obtain ⟨W, env, s, e, q⟩ := h
    refine ⟨W, env, s, e, Res.step q fun W1 H1 s1 d x l1 e1 h1 q1 => ?_⟩
    revert q1
    unfold Out.of
    cases hz2 : gIsi tb cb s1 d with
    | none => exact fun q => q.elim
    | some z =>
      intro q
      refine ⟨hz, fun pt hpt => ?_⟩
      have l2 : Le W1 H1 s1 (W1.add pt) (L2.upd H1 pt (.tup cvs)) s1 := Le.laid e1.st hpt
      have t2 := e1.st.laid hpt (o := .tup cvs) (fun _ z => nomatch z)
      obtain ⟨ty, b, rfl, k1, k2⟩ := isi_ty hT hC t2 (h1.mono l2 e1.st) hz2
      exact ⟨x, pt, cvs, ty, us, b, rfl, upd_same, hk, k1, k2, q.ok' l2 (e1.later l2 t2) rfl⟩
end
end DV
end
section
set_option Elab.async false
set_option linter.all false
set_option maxRecDepth 100000
/-! DW: what changes: items set, methods; dicts that are new. -/
namespace DV
open PySem PySem.Spec PyProof.Rows L2

def S.put (s : S) (i : Nat) (o : MO) : S := ⟨s.mo.set i o, s.tg⟩
section
variable {C : Cfg} {K : PySem.W.Frag} {W : Wd} {H : Hp} {s : S}
theorem mok_plain {a : Addr} {o : MO} (nd : o ≠ .dead) (m : MOk C K W H a o) : plainAt H a := by
  cases o with
  | lst xs => obtain ⟨vs, h, _⟩ := m; exact .of h plain_lst
  | dK ks vs => obtain ⟨kvs, h, _⟩ := m; exact .of h plain_dK
  | dT ks vs => obtain ⟨kvs, h, _⟩ := m; exact .of h plain_dT
  | ins c vs => obtain ⟨dx, ws, h, _⟩ := m; exact .of h plain_ins
  | dead => exact absurd rfl nd
theorem StS.write {i : Nat} {a : Addr} {o o' : MO} {u : HO} (t : StS C K W H s) (ha : W.al[i]? = some a) (hi : s.mo[i]? = some o) (nd : o ≠ .dead) (new : Lf W H W (L2.upd H a u) → MOk C K W (L2.upd H a u) a o') : StS C K W (L2.upd H a u) (s.put i o') ∧ Le W H s W (L2.upd H a u) (s.put i o') := by
  have hlt : i < s.mo.length := (List.getElem?_eq_some_iff.mp hi).1
  have nF : ¬ W.F a := fun z => by
    have h := (t.fz a z).2.2 i ha
    rw [hi] at h
    exact nd (Option.some.inj h)
  have lf : Lf W H W (L2.upd H a u) := Lf.upd nF
  have inj : ∀ {j : Nat} {b : Addr}, W.al[j]? = some b → b = a → j = i := fun {j b} hj e => by
    subst e
    obtain ⟨q1, q2⟩ := List.getElem?_eq_some_iff.mp hj
    obtain ⟨q3, q4⟩ := List.getElem?_eq_some_iff.mp ha
    exact (List.getElem_inj t.nod).mp (q2.trans q4.symm)
  have dedp : ∀ j : Nat, s.mo[j]? = some .dead → (s.mo.set i o')[j]? = some .dead := fun j hj => by
    by_cases e : i = j
    · subst e
      rw [hi] at hj
      exact absurd (Option.some.inj hj) nd
    · rw [List.getElem?_set_ne e]
      exact hj
  refine ⟨⟨?_, t.tln, t.nod, fun j v b h1 h2 => ?_, fun b f => ?_, fun b hb => ?_, tabs_upd t.tb (mok_plain nd (t.mo i o a hi ha))⟩, ⟨fun _ h => h, fun _ _ h => h, fun _ _ h => h, fun b v h n l => ?_, fun b h => ?_, dedp, fun j b hj h => ?_, fun _ h => .inl h⟩⟩
  · show W.al.length = (s.mo.set i o').length
    rw [List.length_set]
    exact t.len
  · have h1 : (s.mo.set i o')[j]? = some v := h1
    by_cases e : i = j
    · subst e
      rw [List.getElem?_set_self hlt] at h1
      cases h1
      rw [ha] at h2
      cases h2
      exact new lf
    · rw [List.getElem?_set_ne e] at h1
      have ne : b ≠ a := fun z => e (inj h2 z).symm
      exact mok_lf lf (fun v e => by rw [upd_ne ne]; exact e) (t.mo j v b h1 h2)
  · obtain ⟨g1, g2, g3⟩ := t.fz b f
    have ne : b ≠ a := fun z => nF (by rw [← z]; exact f)
    rw [upd_ne ne]
    exact ⟨g1, g2, fun j hj => dedp j (g3 j hj)⟩
  · by_cases z : b = a
    · rw [z, upd_same]
      exact fun z => nomatch z
    · rw [upd_ne z]
      exact t.alh b hb
  · have ne : b ≠ a := fun z => by
      have h2 := l i (by rw [z]; exact ha)
      rw [hi] at h2
      exact nd (Option.some.inj h2)
    rw [upd_ne ne]
    exact h
  · by_cases z : b = a
    · rw [z, upd_same]
      exact fun z => nomatch z
    · rw [upd_ne z]
      exact h
  · rw [List.getElem?_eq_none hj] at h
    cases h
end

/-! ### dicts: a key set -/
def rep1 : List D → List D → Key → D → List D
  | k :: ks, w :: vs, q, v => (if kD k = some q then v else w) :: rep1 ks vs q v
  | _, _, _, _ => []
def repT : List D → List D → List Key → D → List D
  | k :: ks, w :: vs, q, v => (if kTD k = some q then v else w) :: repT ks vs q v
  | _, _, _, _ => []
/-- keys and values with a key set -/
def putKD (ks vs : List D) (q : Key) (v : D) : List D × List D := if (look1 ks vs q).isSome then (ks, rep1 ks vs q v) else (ks ++ [keyD q], vs ++ [v])
def putTD (ks vs : List D) (q : List Key) (v : D) : List D × List D := if (lookT ks vs q).isSome then (ks, repT ks vs q v) else (ks ++ [.tup (q.map keyD)], vs ++ [v])
section
variable {C : Cfg} {K : PySem.W.Frag} {W : Wd} {H : Hp}
theorem rep1_rd {q : Key} {d : D} {v : V} (rv : RD C K W H d v) : ∀ {kvs : List (Key × V)} {vs : List D}, RDs C K W H vs (kvs.map (·.2)) → RDs C K W H (rep1 (kvs.map fun p => keyD p.1) vs q d) ((kvs.map fun kv => if kv.1 = q then (kv.1, v) else kv).map (·.2))
  | [], vs, r => by
    cases vs <;> rfl
  | p :: kvs, [], r => by
    have r' : p.2 :: kvs.map (·.2) = [] := r
    cases r'
  | p :: kvs, w :: vs, r => by
    obtain ⟨x, rs, e, h1, h2⟩ := r
    have e' : p.2 :: kvs.map (·.2) = x :: rs := e
    injection e' with e1 e2
    have ih := rep1_rd (q := q) rv (kvs := kvs) (vs := vs) (by rw [e2]; exact h2)
    refine ⟨_, _, rfl, ?_, ih⟩
    show RD C K W H (if kD (keyD p.1) = some q then d else w) (if p.1 = q then (p.1, v) else p).2
    rw [kD_keyD]
    by_cases hk : p.1 = q
    · rw [if_pos hk, if_pos (by rw [hk])]
      exact rv
    · rw [if_neg hk, if_neg fun z => hk (Option.some.inj z), e1]
      exact h1
theorem repT_rd {q : List Key} {d : D} {v : V} (rv : RD C K W H d v) : ∀ {kvs : List (List Key × V)} {vs : List D}, RDs C K W H vs (kvs.map (·.2)) → RDs C K W H (repT (kvs.map fun p => D.tup (p.1.map keyD)) vs q d) ((kvs.map fun kv => if kv.1 = q then (kv.1, v) else kv).map (·.2))
  | [], vs, r => by
    cases vs <;> rfl
  | p :: kvs, [], r => by
    have r' : p.2 :: kvs.map (·.2) = [] := r
    cases r'
  | p :: kvs, w :: vs, r => by
    obtain ⟨x, rs, e, h1, h2⟩ := r
    have e' : p.2 :: kvs.map (·.2) = x :: rs := e
    injection e' with e1 e2
    have ih := repT_rd (q := q) rv (kvs := kvs) (vs := vs) (by rw [e2]; exact h2)
    refine ⟨_, _, rfl, ?_, ih⟩
    show RD C K W H (if kTD (.tup (p.1.map keyD)) = some q then d else w) (if p.1 = q then (p.1, v) else p).2
    rw [kTD_map]
    by_cases hk : p.1 = q
    · rw [if_pos hk, if_pos (by rw [hk])]
      exact rv
    · rw [if_neg hk, if_neg fun z => hk (Option.some.inj z), e1]
      exact h1
theorem map_fst_rep {κ : Type} [DecidableEq κ] {β : Type} (f : κ → β) (q : κ) (v : V) : ∀ kvs : List (κ × V), (kvs.map fun kv => if kv.1 = q then (kv.1, v) else kv).map (fun p => f p.1) = kvs.map fun p => f p.1
  | [] => rfl
  | p :: kvs => by
    show f (if p.1 = q then (p.1, v) else p).1 :: _ = f p.1 :: _
    rw [map_fst_rep f q v kvs]
    by_cases h : p.1 = q
    · rw [if_pos h]
    · rw [if_neg h]
theorem putKD_rd {q : Key} {d : D} {v : V} {kvs : List (Key × V)} {vs : List D} (rv : RD C K W H d v) (r : RDs C K W H vs (kvs.map (·.2))) :
    (putKD (kvs.map fun p => keyD p.1) vs q d).1 = (putK kvs q v).map (fun p => keyD p.1) ∧ RDs C K W H (putKD (kvs.map fun p => keyD p.1) vs q d).2 ((putK kvs q v).map (·.2)) := by
  have l := look1_rd (q := q) r
  unfold putKD putK
  rw [valV_any]
  cases hl : look1 (kvs.map fun p => keyD p.1) vs q with
  | none =>
    rw [hl] at l
    rw [l]
    refine ⟨?_, ?_⟩
    · show kvs.map (fun p => keyD p.1) ++ [keyD q] = (kvs ++ [(q, v)]).map fun p => keyD p.1
      rw [List.map_append]
      rfl
    · show RDs C K W H (vs ++ [d]) ((kvs ++ [(q, v)]).map (·.2))
      rw [List.map_append]
      exact r.append ⟨v, [], rfl, rv, rfl⟩
  | some e =>
    rw [hl] at l
    obtain ⟨x, l, _⟩ := l
    rw [l]
    exact ⟨(map_fst_rep keyD q v kvs).symm, rep1_rd rv r⟩
theorem putTD_rd {q : List Key} {d : D} {v : V} {kvs : List (List Key × V)} {vs : List D} (rv : RD C K W H d v) (r : RDs C K W H vs (kvs.map (·.2))) :
    (putTD (kvs.map fun p => D.tup (p.1.map keyD)) vs q d).1 = (putK kvs q v).map (fun p => D.tup (p.1.map keyD)) ∧ RDs C K W H (putTD (kvs.map fun p => D.tup (p.1.map keyD)) vs q d).2 ((putK kvs q v).map (·.2)) := by
  have l := lookT_rd (q := q) r
  unfold putTD putK
  rw [valV_any]
  cases hl : lookT (kvs.map fun p => D.tup (p.1.map keyD)) vs q with
  | none =>
    rw [hl] at l
    rw [l]
    refine ⟨?_, ?_⟩
    · show kvs.map (fun p => D.tup (p.1.map keyD)) ++ [.tup (q.map keyD)] = (kvs ++ [(q, v)]).map fun p => D.tup (p.1.map keyD)
      rw [List.map_append]
      rfl
    · show RDs C K W H (vs ++ [d]) ((kvs ++ [(q, v)]).map (·.2))
      rw [List.map_append]
      exact r.append ⟨v, [], rfl, rv, rfl⟩
  | some e =>
    rw [hl] at l
    obtain ⟨x, l, _⟩ := l
    rw [l]
    exact ⟨(map_fst_rep (fun k : List Key => D.tup (k.map keyD)) q v kvs).symm, repT_rd rv r⟩
theorem rep1_low {q : Key} {d : D} (hd : d.low 0 0 = true) : ∀ {ks vs : List D}, D.lows 0 0 vs = true → D.lows 0 0 (rep1 ks vs q d) = true
  | [], vs, h => by cases vs <;> rfl
  | k :: ks, [], h => rfl
  | k :: ks, w :: vs, h => by
    have h : (w.low 0 0 && D.lows 0 0 vs) = true := h
    rw [Bool.and_eq_true] at h
    show ((if kD k = some q then d else w).low 0 0 && D.lows 0 0 (rep1 ks vs q d)) = true
    rw [rep1_low hd h.2, Bool.and_true]
    split
    · exact hd
    · exact h.1
theorem repT_low {q : List Key} {d : D} (hd : d.low 0 0 = true) : ∀ {ks vs : List D}, D.lows 0 0 vs = true → D.lows 0 0 (repT ks vs q d) = true
  | [], vs, h => by cases vs <;> rfl
  | k :: ks, [], h => rfl
  | k :: ks, w :: vs, h => by
    have h : (w.low 0 0 && D.lows 0 0 vs) = true := h
    rw [Bool.and_eq_true] at h
    show ((if kTD k = some q then d else w).low 0 0 && D.lows 0 0 (repT ks vs q d)) = true
    rw [repT_low hd h.2, Bool.and_true]
    split
    · exact hd
    · exact h.1
theorem lows_app {xs ys : List D} (h : D.lows 0 0 xs = true) (h' : D.lows 0 0 ys = true) : D.lows 0 0 (xs ++ ys) = true := by
  induction xs with
  | nil => exact h'
  | cons x xs ih =>
    have h : (x.low 0 0 && D.lows 0 0 xs) = true := h
    rw [Bool.and_eq_true] at h
    show (x.low 0 0 && D.lows 0 0 (xs ++ ys)) = true
    rw [h.1, ih h.2]
    rfl
theorem lows_one {d : D} (h : d.low 0 0 = true) : D.lows 0 0 [d] = true := by
  show (d.low 0 0 && D.lows 0 0 []) = true
  rw [h]
  rfl
theorem lows_set {d : D} (hd : d.low 0 0 = true) : ∀ {xs : List D} {n : Nat}, D.lows 0 0 xs = true → D.lows 0 0 (xs.set n d) = true
  | [], n, h => rfl
  | x :: xs, 0, h => by
    have h : (x.low 0 0 && D.lows 0 0 xs) = true := h
    rw [Bool.and_eq_true] at h
    show (d.low 0 0 && D.lows 0 0 xs) = true
    rw [hd, h.2]
    rfl
  | x :: xs, n + 1, h => by
    have h : (x.low 0 0 && D.lows 0 0 xs) = true := h
    rw [Bool.and_eq_true] at h
    show (x.low 0 0 && D.lows 0 0 (xs.set n d)) = true
    rw [h.1, lows_set hd h.2]
    rfl
theorem lows_sub {xs ys : List D} (h : D.lows 0 0 xs = true) (hs : ∀ y ∈ ys, y ∈ xs) : D.lows 0 0 ys = true := by
  have all : ∀ {zs : List D}, D.lows 0 0 zs = true ↔ ∀ z ∈ zs, z.low 0 0 = true := by
    intro zs
    induction zs with
    | nil => exact ⟨fun _ z hz => by simp at hz, fun _ => rfl⟩
    | cons z zs ih =>
      show (z.low 0 0 && D.lows 0 0 zs) = true ↔ _
      rw [Bool.and_eq_true, ih]
      simp
  exact all.mpr fun y hy => all.mp h y (hs y hy)
theorem RDs.set {d : D} {v : V} (rv : RD C K W H d v) : ∀ {xs : List D} {vs : List V} (n : Nat), RDs C K W H xs vs → RDs C K W H (xs.set n d) (vs.set n v)
  | [], vs, n, r => by
    have e : vs = [] := r
    subst e
    rfl
  | x :: xs, vs, 0, r => by
    obtain ⟨w, rs, rfl, h1, h2⟩ := r
    exact ⟨v, rs, rfl, rv, h2⟩
  | x :: xs, vs, n + 1, r => by
    obtain ⟨w, rs, rfl, h1, h2⟩ := r
    exact ⟨w, rs.set n v, rfl, h1, RDs.set rv n h2⟩
theorem RDs.erase : ∀ {xs : List D} {vs : List V} (n : Nat), RDs C K W H xs vs → RDs C K W H (xs.eraseIdx n) (vs.eraseIdx n)
  | [], vs, n, r => by
    have e : vs = [] := r
    subst e
    rfl
  | x :: xs, vs, 0, r => by
    obtain ⟨w, rs, rfl, h1, h2⟩ := r
    exact h2
  | x :: xs, vs, n + 1, r => by
    obtain ⟨w, rs, rfl, h1, h2⟩ := r
    exact ⟨w, rs.eraseIdx n, rfl, h1, RDs.erase n h2⟩
theorem RDs.dropLast {xs : List D} {vs : List V} (r : RDs C K W H xs vs) : RDs C K W H xs.dropLast vs.dropLast := by
  rw [List.dropLast_eq_take, List.dropLast_eq_take, r.length]
  exact r.take _
end

/-! ### a[b] = v -/
def mSet (s : S) (o i d : D) : Option S := match o.strip with
  | .ref j => (match s.mo[j]? with
    | some (.lst xs) => (match view s i with
      | .int k => (match ixN xs.length k with
        | some n => if d.low 0 0 = true then some (s.put j (.lst (xs.set n d))) else none
        | none => none)
      | _ => none)
    | some (.dK ks vs) => (match kD i with
      | some k => if ks.length < sizeLine ∧ d.low 0 0 = true then some (s.put j (.dK (putKD ks vs k d).1 (putKD ks vs k d).2)) else none
      | none => none)
    | some (.dT ks vs) => (match kTD i with
      | some k => if ks.length < sizeLine ∧ d.low 0 0 = true then some (s.put j (.dT (putTD ks vs k d).1 (putTD ks vs k d).2)) else none
      | none => none)
    | _ => none)
  | _ => none
def gSet (fo fi : Ex) : Gx := fun d e s => (fo e s).bind fun o s => (fi e s).bind fun i s => match mSet s o i d with
  | some s' => .ok e s'
  | none => .stuck
theorem PSet.or {X : Cx} {t t' : TSet} (h : PSet X t) (h' : PSet X t') : PSet X (fun o i v H Q => t o i v H Q ∨ t' o i v H Q) := fun pins s σ H o i v ov iv u Q I ro ri rv q => by
  rcases q with q | q
  · exact h pins s σ H o i v ov iv u Q I ro ri rv q
  · exact h' pins s σ H o i v ov iv u Q I ro ri rv q
section
variable {C : Cfg} {X : Cx} {o i : Expr} {fo fi : Ex} {pos : Pos}
theorem set_reads {W : Wd} {H : Hp} {s s' : S} {od id d : D} {ov iv v : V} {Q : Hp → Prop} (t : StS C X.K W H s) (ro : RD C X.K W H od ov) (ri : RD C X.K W H id iv) (rv : RD C X.K W H d v) (h : mSet s od id d = some s') (q : ∀ H', StS C X.K W H' s' → Le W H s W H' s' → Q H') :
    rSetL ov iv v H Q ∨ rSetD ov iv v H Q := by
  have ro := ro.strip
  unfold mSet at h
  generalize od.strip = od0 at ro h
  cases od0 with
  | ref j =>
    obtain ⟨a, ha, rfl⟩ := ro
    have h : (match s.mo[j]? with
      | some (.lst xs) => (match view s id with
        | .int k => (match ixN xs.length k with
          | some n => if d.low 0 0 = true then some (s.put j (.lst (xs.set n d))) else none
          | none => none)
        | _ => none)
      | some (.dK ks vs) => (match kD id with
        | some k => if ks.length < sizeLine ∧ d.low 0 0 = true then some (s.put j (.dK (putKD ks vs k d).1 (putKD ks vs k d).2)) else none
        | none => none)
      | some (.dT ks vs) => (match kTD id with
        | some k => if ks.length < sizeLine ∧ d.low 0 0 = true then some (s.put j (.dT (putTD ks vs k d).1 (putTD ks vs k d).2)) else none
        | none => none)
      | _ => none) = some s' := h
    split at h
    · rename_i xs hx
      obtain ⟨vs, g1, g2, g3⟩ := t.mo j _ a hx ha
      split at h
      · rename_i k hk
        have si := see_of t ri
        rw [hk] at si
        split at h
        · rename_i n hn
          split at h
          · rename_i hl
            cases h
            obtain ⟨t2, l2⟩ := t.write (o' := .lst (xs.set n d)) (u := .lst (vs.set n v)) ha hx (fun z => nomatch z) fun lf => ⟨vs.set n v, upd_same, (g2.lf lf).set (rv.lf lf) n, lows_set hl g3⟩
            exact .inl ⟨a, vs, k, n, rfl, si, g1, by rw [← g2.length]; exact hn, q _ t2 l2⟩
          · cases h
        · cases h
      · cases h
    · rename_i ks vs hx
      obtain ⟨kvs, g1, g2, g3, g4⟩ := t.mo j _ a hx ha
      split at h
      · rename_i k hk
        split at h
        · rename_i hl
          cases h
          subst g2
          have e := kD_rd ri hk
          obtain ⟨t2, l2⟩ := t.write (o' := .dK (putKD (kvs.map fun p => keyD p.1) vs k d).1 (putKD (kvs.map fun p => keyD p.1) vs k d).2) (u := .dK (putK kvs k v)) ha hx (fun z => nomatch z) fun lf => by
            obtain ⟨p1, p2⟩ := putKD_rd (q := k) (kvs := kvs) (rv.lf lf) (g3.lf lf)
            refine ⟨_, upd_same, p1, p2, ?_⟩
            unfold putKD
            split
            · exact rep1_low hl.2 g4
            · exact lows_app g4 (lows_one hl.2)
          exact .inr ⟨a, _, rfl, .inl ⟨kvs, k, g1, e, by have := hl.1; rw [List.length_map] at this; exact this, rfl⟩, q _ t2 l2⟩
        · cases h
      · cases h
    · rename_i ks vs hx
      obtain ⟨kvs, g1, g2, g3, g4⟩ := t.mo j _ a hx ha
      split at h
      · rename_i k hk
        split at h
        · rename_i hl
          cases h
          subst g2
          obtain ⟨b, e, hb⟩ := kTD_rd ri hk
          obtain ⟨t2, l2⟩ := t.write (o' := .dT (putTD (kvs.map fun p => D.tup (p.1.map keyD)) vs k d).1 (putTD (kvs.map fun p => D.tup (p.1.map keyD)) vs k d).2) (u := .dT (putK kvs k v)) ha hx (fun z => nomatch z) fun lf => by
            obtain ⟨p1, p2⟩ := putTD_rd (q := k) (kvs := kvs) (rv.lf lf) (g3.lf lf)
            refine ⟨_, upd_same, p1, p2, ?_⟩
            unfold putTD
            split
            · exact repT_low hl.2 g4
            · exact lows_app g4 (lows_one hl.2)
          exact .inr ⟨a, _, rfl, .inr ⟨kvs, k, b, g1, e, hb, by have := hl.1; rw [List.length_map] at this; exact this, rfl⟩, q _ t2 l2⟩
        · cases h
      · cases h
    · cases h
  | _ => cases h
theorem dg_sub (hu : X.A.units + 1 < cLine) (ho : DE C X W0 o fo) (hi : DE C X W0 i fi)
    (ha : ∀ v, assign (.Subscript o i pos) X.env v = (do
      let ov ← holding [v] (eval o X.env)
      let iv ← holding [v, ov] (eval i X.env)
      standAt pos
      holding [v, ov, iv] (setItem ov iv v)
      release [v, ov, iv] []) := by intro _; rfl) : DG C X (.Subscript o i pos) (gSet fo fi) := PG.imp (t := L2.gSub (tD C X.K W0 fo) (tD C X.K W0 fi) fun o i v H Q => rSetL o i v H Q ∨ rSetD o i v H Q) (pg_sub ho hi (PSet.or set_list (set_dict hu)) ha) fun v σ H Q h => by
  obtain ⟨W, env, s, d, e, r, q⟩ := h
  refine ⟨W, env, s, e, ?_⟩
  revert q
  unfold gSet
  cases fo env s with
  | exc _ _ _ => exact fun q => q.elim
  | stuck => exact fun q => q.elim
  | ok od s1 =>
    intro q W1 H1 ov l1 e1 r1
    refine ⟨W1, env, s1, e1, ?_⟩
    revert q
    show (match ((fi env s1).bind fun i s => match mSet s od i d with
      | some s' => Out.ok env s'
      | none => .stuck) with
      | .ok env' s' => _
      | _ => False) → _
    cases fi env s1 with
    | exc _ _ _ => exact fun q => q.elim
    | stuck => exact fun q => q.elim
    | ok id s2 =>
      intro q W2 H2 iv l2 e2 r2
      have q : (match (match mSet s2 od id d with
        | some s' => Out.ok env s'
        | none => .stuck) with
        | .ok env' s' => ∀ W' σ' H', Le W H s W' H' s' → StE C X.K W' H' σ' env' s' → Q σ' H'
        | _ => False) := q
      cases hm : mSet s2 od id d with
      | none => rw [hm] at q; exact q.elim
      | some s3 =>
        rw [hm] at q
        exact set_reads e2.st (r1.mono l2 e1.st) r2 ((r.mono l1 e.st).mono l2 e1.st) hm fun H3 t3 l3 => q W2 σ H3 ((l1.trans l2).trans l3) (e2.later l3 t3)
end

/-! ### methods of built-in kinds -/
def rm (C : Cfg) (K : PySem.W.Frag) (m : S → D → List D → Out D) : V → List V → Hp → VK → Prop := fun v vs H Q => ∃ W s x ys, StS C K W H s ∧ RD C K W H x v ∧ RDs C K W H ys vs ∧ match m s x ys with
  | .ok d s' => ∀ W' H' u, Le W H s W' H' s' → StS C K W' H' s' → RD C K W' H' d u → Q u H'
  | _ => False
def xBm (chk : S → D → Bool) (m : S → D → List D → Out D) (fo : Ex) (fa : Ax) : Ex := fun e s => (fo e s).bind fun x s => if chk s x = true then (fa e s).bind fun ys s => noX (fun s ys => m s x ys) s ys else .stuck
def TyChk (C : Cfg) (K : PySem.W.Frag) (T : String) (chk : S → D → Bool) : Prop := ∀ W H s d v, StS C K W H s → RD C K W H d v → chk s d = true → tyV K T v H
theorem MtR.imp {X : Cx} {id : String} {r r' : V → List V → Hp → VK → Prop} (h : MtR X id r) (i : ∀ x xs H Q, r' x xs H Q → r x xs H Q) : MtR X id r' := fun pins s σ H x xs v us Q I rx rs q => h pins s σ H x xs v us Q I rx rs (i _ _ _ _ q)
section
variable {C : Cfg} {X : Cx} {Wx : WX} {o e : Expr} {es : List Expr} {fo : Ex} {fa : Ax} {apos cpos : Pos} {T id : String} {name : Str} {m : S → D → List D → Out D} {chk : S → D → Bool}
theorem tD_bm {K : PySem.W.Frag} (hT : TyChk C K T chk) : ∀ σ H Q, tD C K Wx (xBm chk m fo fa) σ H Q → tBM K T (rm C K m) (tD C K Wx fo) (tAx C K Wx fa) σ H Q := fun σ H Q h => by
  obtain ⟨W, env, s, e, q⟩ := h
  refine ⟨W, env, s, e, Res.step q fun W1 H1 s1 d x l1 e1 h1 q1 => ?_⟩
  by_cases hc : chk s1 d = true
  · rw [if_pos hc] at q1
    refine ⟨hT _ _ _ _ _ e1.st h1 hc, W1, env, s1, e1, Res.step q1 fun W2 H2 s2 ds vs l2 e2 h2 q2 => ⟨W2, s2, d, ds, e2.st, h1.mono l2 e1.st, h2, ?_⟩⟩
    have q2 : Res C K (fun W H => RD C K W H) Wx σ env W2 H2 s2 (match m s2 d ds with
      | .ok d s' => .ok d s'
      | _ => .stuck) Q := q2
    cases hm : m s2 d ds with
    | ok d s3 =>
      rw [hm] at q2
      exact fun W3 H3 v l3 t3 r3 => q2 W3 H3 v l3 (e2.later l3 t3) r3
    | exc c vs s2 => rw [hm] at q2; exact q2
    | stuck => rw [hm] at q2; exact q2
  · rw [if_neg hc] at q1
    exact q1.elim
theorem de_bm (hT : TyChk C X.K T chk) (pa : PlainAttrs T) (slot : Slot T name id) (hty : typeOf (.builtin id) = pure (.type "method_descriptor")) (hm : MtR X id (rm C X.K m)) (ho : DE C X Wx o fo) (ha : DA C X Wx (e :: es) fa)
    (hbase : attributeBase o name X.env (eval o X.env) = eval o X.env := by rfl)
    (hfew : ((backTo cpos (starEach (e :: es) X.env)).all (fun x => !x.1) && (backToKw cpos (keywordEach [] X.env)).all (fun x => x.1.isSome)
      && decide ((e :: es).length + ([] : List Keyword).length + (if ([] : List Keyword).isEmpty then 0 else 1) < 30)) = true := by rfl)
    (hline : (apos.endLine == cpos.line) = true := by rfl) (hs : starEach (e :: es) X.env = (false, eval e X.env) :: starEach es X.env := by rfl) (hplain : (backTo cpos (starEach es X.env)).any (·.1) = false := by rfl) :
    DE C X Wx (.Call (.Attribute o name apos) (e :: es) [] cpos) (xBm chk m fo fa) := PE.imp (pe_bm pa slot hty hm ho ha hbase hfew hline hs hplain) (tD_bm hT)
theorem de_bm0 (hT : TyChk C X.K T chk) (pa : PlainAttrs T) (slot : Slot T name id) (hty : typeOf (.builtin id) = pure (.type "method_descriptor")) (hm : MtR X id (rm C X.K m)) (ho : DE C X Wx o fo)
    (hbase : attributeBase o name X.env (eval o X.env) = eval o X.env := by rfl) (hline : (apos.endLine == cpos.line) = true := by rfl) : DE C X Wx (.Call (.Attribute o name apos) [] [] cpos) (xBm chk m fo aNil) :=
  PE.imp (pe_bm0 pa slot hty hm ho hbase hline) fun σ H Q h => by
    obtain ⟨W, env, s, e, q⟩ := tD_bm hT σ H Q h
    refine ⟨W, env, s, e, Res.imp q fun v H1 ⟨z1, W1, env1, s1, e1, z2⟩ => ⟨z1, ?_⟩⟩
    exact Res.here (a := ([] : List D)) (b := ([] : List V)) z2 e1 rfl
end
theorem rm_ok {C : Cfg} {K : PySem.W.Frag} {m : S → D → List D → Out D} {v : V} {vs : List V} {H : Hp} {Q : VK} (h : rm C K m v vs H Q) : ∃ W s x ys d s', StS C K W H s ∧ RD C K W H x v ∧ RDs C K W H ys vs ∧ m s x ys = .ok d s' ∧ ∀ W' H' u, Le W H s W' H' s' → StS C K W' H' s' → RD C K W' H' d u → Q u H' := by
  obtain ⟨W, s, x, ys, t, r, rs, q⟩ := h
  cases hm : m s x ys with
  | ok d s' => rw [hm] at q; exact ⟨W, s, x, ys, d, s', t, r, rs, hm, q⟩
  | exc _ _ _ => rw [hm] at q; exact q.elim
  | stuck => rw [hm] at q; exact q.elim
/-! the list's own -/
def isLst (s : S) (d : D) : Bool := (lstD (view s d)).isSome
theorem tyc_list {C : Cfg} {K : PySem.W.Frag} : TyChk C K "list" isLst := fun W H s d v t r h => by
  unfold isLst at h
  cases hl : lstD (view s d) with
  | none => rw [hl] at h; cases h
  | some xs =>
    obtain ⟨a, vs, rfl, l, _⟩ := lst_of (see_of t r) hl
    exact .inl ⟨rfl, vs, l⟩
/-- the list that changes -/
def ownL (s : S) (x : D) : Option (Nat × List D) := match x.strip with
  | .ref i => (match s.mo[i]? with
    | some (.lst xs) => some (i, xs)
    | _ => none)
  | _ => none
theorem ownL_of {C : Cfg} {K : PySem.W.Frag} {W : Wd} {H : Hp} {s : S} {x : D} {v : V} {i : Nat} {xs : List D} (t : StS C K W H s) (r : RD C K W H x v) (h : ownL s x = some (i, xs)) : ∃ a vs, v = .ref a ∧ W.al[i]? = some a ∧ s.mo[i]? = some (.lst xs) ∧ H a = some (.lst vs) ∧ RDs C K W H xs vs ∧ D.lows 0 0 xs = true := by
  have r := r.strip
  unfold ownL at h
  generalize x.strip = x0 at r h
  cases x0 with
  | ref j =>
    obtain ⟨a, ha, rfl⟩ := r
    have h : (match s.mo[j]? with
      | some (.lst xs) => some (j, xs)
      | _ => none) = some (i, xs) := h
    split at h
    · rename_i ys hx
      cases h
      obtain ⟨vs, g1, g2, g3⟩ := t.mo _ _ a hx ha
      exact ⟨a, vs, rfl, ha, hx, g1, g2, g3⟩
    · cases h
  | _ => cases h
def mAppend (s : S) (x : D) (ys : List D) : Out D := match ownL s x, ys with
  | some (i, xs), [y] => if xs.length < sizeLine ∧ y.low 0 0 = true then .ok .non (s.put i (.lst (xs ++ [y]))) else .stuck
  | _, _ => .stuck
def mPop (s : S) (x : D) (ys : List D) : Out D := match ownL s x, ys with
  | some (i, xs), [] => (match xs[xs.length - 1]? with
    | some y => .ok y (s.put i (.lst xs.dropLast))
    | none => .stuck)
  | some (i, xs), [j] => (match view s j with
    | .int k => if -(2 ^ 63) ≤ k ∧ k < 2 ^ 63 then (match seqIndex? k xs.length with
      | some n => (match xs[n]? with
        | some y => .ok y (s.put i (.lst (xs.eraseIdx n)))
        | none => .stuck)
      | none => .stuck) else .stuck
    | _ => .stuck)
  | _, _ => .stuck
section
variable {C : Cfg} {X : Cx}
theorem m_append : MtR X "list.append" (rm C X.K mAppend) := MtR.imp (r := rAppend) mt_append fun v vs H Q h => by
  obtain ⟨W, s, x, ys, d, s', t, r, rs, hm, q⟩ := rm_ok h
  unfold mAppend at hm
  split at hm
  · rename_i i xs y ho
    obtain ⟨a, us, rfl, ha, hx, g1, g2, g3⟩ := ownL_of t r ho
    obtain ⟨u, rfl, ru⟩ := rds1 rs
    split at hm
    · rename_i hl
      cases hm
      obtain ⟨t2, l2⟩ := t.write (o' := .lst (xs ++ [y])) (u := .lst (us ++ [u])) ha hx (fun z => nomatch z) fun lf => ⟨us ++ [u], upd_same, (g2.lf lf).append ⟨u, [], rfl, ru.lf lf, rfl⟩, lows_app g3 (lows_one hl.2)⟩
      exact ⟨a, us, u, rfl, rfl, g1, by rw [← g2.length]; exact hl.1, q _ _ _ l2 t2 rfl⟩
    · cases hm
  · cases hm
theorem m_pop : MtR X "list.pop" (rm C X.K mPop) := MtR.imp (MtR.or (r := rPop) (r' := rPopAt) mt_pop mt_popAt) fun v vs H Q h => by
  obtain ⟨W, s, x, ys, d, s', t, r, rs, hm, q⟩ := rm_ok h
  unfold mPop at hm
  split at hm
  · rename_i i xs ho
    obtain ⟨a, us, rfl, ha, hx, g1, g2, g3⟩ := ownL_of t r ho
    have e : vs = [] := rs
    subst e
    split at hm
    · rename_i y hy
      cases hm
      obtain ⟨w, hw, rw'⟩ := g2.get hy
      obtain ⟨t2, l2⟩ := t.write (o' := .lst xs.dropLast) (u := .lst us.dropLast) ha hx (fun z => nomatch z) fun lf => ⟨us.dropLast, upd_same, (g2.lf lf).dropLast, lows_sub g3 fun y hy => List.dropLast_subset xs hy⟩
      exact .inl ⟨a, us, w, rfl, rfl, g1, by rw [← g2.length]; exact hw, q _ _ _ l2 t2 (rw'.mono l2 t)⟩
    · cases hm
  · rename_i i xs j ho
    obtain ⟨a, us, rfl, ha, hx, g1, g2, g3⟩ := ownL_of t r ho
    obtain ⟨u, rfl, ru⟩ := rds1 rs
    have sj := see_of t ru
    split at hm
    · rename_i k hk
      rw [hk] at sj
      split at hm
      · rename_i hb
        split at hm
        · rename_i n hn
          split at hm
          · rename_i y hy
            cases hm
            obtain ⟨w, hw, rw'⟩ := g2.get hy
            obtain ⟨t2, l2⟩ := t.write (o' := .lst (xs.eraseIdx n)) (u := .lst (us.eraseIdx n)) ha hx (fun z => nomatch z) fun lf => ⟨us.eraseIdx n, upd_same, (g2.lf lf).erase n, lows_sub g3 fun y hy => (List.eraseIdx_sublist xs n).subset hy⟩
            exact .inr ⟨a, us, k, n, w, rfl, by rw [show u = .int k from sj], g1, hb.1, hb.2, by rw [← g2.length]; exact hn, hw, q _ _ _ l2 t2 (rw'.mono l2 t)⟩
          · cases hm
        · cases hm
      · cases hm
    · cases hm
  · cases hm
end

/-! ### a new dict -/
def xDK : Ex := fun _ s => .ok (.ref s.mo.length) (s.own (.dK [] []))
def xDT : Ex := fun _ s => .ok (.ref s.mo.length) (s.own (.dT [] []))
def xD0 : Ex := fun _ s => .ok (.dct [] []) s
section
variable {C : Cfg} {X : Cx} {Wx : WX} {pos : Pos}
theorem de_dctK : DE C X Wx (.Dict [] [] pos) xDK := PE.imp pe_dnewK fun σ H Q h => by
  obtain ⟨W, env, s, e, q⟩ := h
  intro p hp
  have nF : ¬ W.F p := fun z => (e.st.fz p z).1 hp
  have nA : p ∉ W.al := fun z => e.st.alh p z hp
  have q : Res C X.K (fun W H => RD C X.K W H) Wx σ env W H s (.ok (.ref s.mo.length) (s.own (.dK [] []))) Q := q
  have e2 := e.upd (o := .dK []) nF nA (.none hp)
  have e3 : StE C X.K (W.own p) (L2.upd H p (.dK [])) σ env (s.own (.dK [] [])) := e2.own (by rw [upd_same]; exact fun z => nomatch z) nF nA ⟨[], upd_same, rfl, rfl, rfl⟩
  refine q.ok' ((Le.fresh hp).own e2.st.len hp) e3 ⟨p, ?_, rfl⟩
  show (W.al ++ [p])[s.mo.length]? = some p
  rw [← e.st.len, List.getElem?_append_right (Nat.le_refl _), Nat.sub_self]
  rfl
theorem de_dctT : DE C X Wx (.Dict [] [] pos) xDT := PE.imp pe_dnewT fun σ H Q h => by
  obtain ⟨W, env, s, e, q⟩ := h
  intro p hp
  have nF : ¬ W.F p := fun z => (e.st.fz p z).1 hp
  have nA : p ∉ W.al := fun z => e.st.alh p z hp
  have q : Res C X.K (fun W H => RD C X.K W H) Wx σ env W H s (.ok (.ref s.mo.length) (s.own (.dT [] []))) Q := q
  have e2 := e.upd (o := .dT []) nF nA (.none hp)
  have e3 : StE C X.K (W.own p) (L2.upd H p (.dT [])) σ env (s.own (.dT [] [])) := e2.own (by rw [upd_same]; exact fun z => nomatch z) nF nA ⟨[], upd_same, rfl, rfl, rfl⟩
  refine q.ok' ((Le.fresh hp).own e2.st.len hp) e3 ⟨p, ?_, rfl⟩
  show (W.al ++ [p])[s.mo.length]? = some p
  rw [← e.st.len, List.getElem?_append_right (Nat.le_refl _), Nat.sub_self]
  rfl
theorem de_dct0 : DE C X Wx (.Dict [] [] pos) xD0 := PE.imp pe_dnewK fun σ H Q h => by
  obtain ⟨W, env, s, e, q⟩ := h
  intro p hp
  have l : Le W H s (W.add p) (L2.upd H p (.dK [])) s := Le.laid e.st hp
  have t2 := e.st.laid hp (o := .dK []) (fun _ z => nomatch z)
  exact q.ok' l (e.later l t2) ⟨p, [], rfl, .inr rfl, .inl ⟨[], upd_same, rfl, rfl⟩, rfl⟩
end
end DV
end
section
set_option Elab.async false
set_option linter.all false
set_option maxRecDepth 100000
/-! DX: truth of any value, or / and as values; two and three names at once; tags. -/
namespace DV
open PySem PySem.Spec PyProof.Rows L2

def truD (s : S) (x : D) : Option Bool := match dctD s x with
  | some (ks, _, false) => some (!ks.isEmpty)
  | some (_, _, true) => none
  | none => (view s x).tru
theorem truD_of {C : Cfg} {K : PySem.W.Frag} {W : Wd} {H : Hp} {s : S} {d : D} {v : V} {k : Bool} (t : StS C K W H s) (r : RD C K W H d v) (h : truD s d = some k) : TruV K v H k := by
  unfold truD at h
  split at h
  · rename_i ks vs hd
    cases h
    obtain ⟨a, rfl, z⟩ := dct_of t r hd
    rcases z with ⟨_, kvs, g1, g2, g3⟩ | ⟨z, _⟩
    · refine .inr (.inr ⟨kvs, g1, ?_⟩)
      rw [g2]
      cases kvs <;> rfl
    · cases z
  · cases h
  · exact tru_of (see_of t r) h
def tTr (a : Ex) : Tx := fun e s => (a e s).bind fun x s => Out.of (truD s x) s
def xOrT (a b : Ex) : Ex := fun e s => (a e s).bind fun x s => match truD s x with
  | some true => .ok x s
  | some false => b e s
  | none => .stuck
def xAndT (a b : Ex) : Ex := fun e s => (a e s).bind fun x s => match truD s x with
  | some true => b e s
  | some false => .ok x s
  | none => .stuck
def xNotT (a : Ex) : Ex := fun e s => (a e s).bind fun x s => match truD s x with
  | some k => .ok (.bl (!k)) s
  | none => .stuck
section
variable {C : Cfg} {X : Cx} {Wx : WX} {a b c : Expr} {fa fb fc : Ex} {pos : Pos} {rest : List Expr}
theorem dt_tr (h : DE C X Wx a fa) (he : ∀ whole, isTrue a X.env whole = (do let v ← whole; standAt a.pos; holding [v] (truthy v)) := by intro _; rfl) : DT C X Wx a (tTr fa) :=
  PT.imp (pt_truth h he) fun σ H Q h => by
    obtain ⟨W, env, s, e, q⟩ := h
    refine ⟨W, env, s, e, Res.step q fun W1 H1 s1 d x l1 e1 h1 q1 => ?_⟩
    revert q1
    unfold Out.of
    cases hk : truD s1 d with
    | none => exact fun q => q.elim
    | some k => exact fun q => ⟨k, truD_of e1.st h1 hk, q.here e1 rfl⟩
theorem de_orT (ha : DE C X Wx a fa) (hb : DE C X Wx (.BoolOp .Or (b :: rest) pos) fb) : DE C X Wx (.BoolOp .Or (a :: b :: rest) pos) (xOrT fa fb) :=
  PE.imp (pe_orT ha hb) fun σ H Q h => by
    obtain ⟨W, env, s, e, q⟩ := h
    refine ⟨W, env, s, e, Res.step q fun W1 H1 s1 d x l1 e1 h1 q1 => ?_⟩
    revert q1
    split
    · rename_i hk
      exact fun q => ⟨true, truD_of e1.st h1 hk, by rw [if_pos rfl]; exact q.here e1 h1⟩
    · rename_i hk
      exact fun q => ⟨false, truD_of e1.st h1 hk, by rw [if_neg Bool.false_ne_true]; exact ⟨W1, env, s1, e1, q⟩⟩
    · exact fun q => q.elim
theorem de_andT (ha : DE C X Wx a fa) (hb : DE C X Wx (.BoolOp .And (b :: rest) pos) fb) : DE C X Wx (.BoolOp .And (a :: b :: rest) pos) (xAndT fa fb) :=
  PE.imp (pe_andT ha hb) fun σ H Q h => by
    obtain ⟨W, env, s, e, q⟩ := h
    refine ⟨W, env, s, e, Res.step q fun W1 H1 s1 d x l1 e1 h1 q1 => ?_⟩
    revert q1
    split
    · rename_i hk
      exact fun q => ⟨true, truD_of e1.st h1 hk, by rw [if_pos rfl]; exact ⟨W1, env, s1, e1, q⟩⟩
    · rename_i hk
      exact fun q => ⟨false, truD_of e1.st h1 hk, by rw [if_neg Bool.false_ne_true]; exact q.here e1 h1⟩
    · exact fun q => q.elim
theorem de_notT (ha : DE C X Wx a fa) : DE C X Wx (.UnaryOp .Not a pos) (xNotT fa) :=
  PE.imp (pe_notT ha) fun σ H Q h => by
    obtain ⟨W, env, s, e, q⟩ := h
    refine ⟨W, env, s, e, Res.step q fun W1 H1 s1 d x l1 e1 h1 q1 => ?_⟩
    revert q1
    split
    · rename_i k hk
      exact fun q => ⟨k, truD_of e1.st h1 hk, q.here e1 rfl⟩
    · exact fun q => q.elim
end

/-! ### a, b, c = x, y, z of names -/
def sPar3 (i j l : Nat) (a : Ax) : Sx := fun e s => (a e s).fl e fun ds s => match ds with
  | [x, y, z] => .next (((e.set i (some x)).set j (some y)).set l (some z)) s
  | _ => .stuck
section
variable {C : Cfg} {X : Cx} {Wx : WX} {fa : Ax}
theorem ds_par3 {i j l : Nat} {x y z : Str} {a b c : Expr} {px py pz pt pos : Pos} {kt k2 pt2} (hc : X.calm = true) (hN : X.N.Nodup) (hi : X.N[i]? = some x) (hj : X.N[j]? = some y) (hl : X.N[l]? = some z) (hij : i ≠ j) (hil : i ≠ l) (hjl : j ≠ l)
    (hx : X.env.scope.names.lookup x = some .local) (hy : X.env.scope.names.lookup y = some .local) (hz : X.env.scope.names.lookup z = some .local) (ha : DA C X Wx [a, b, c] fa)
    (hw : swappedStores [.Tuple [.Name x px, .Name y py, .Name z pz] kt pt] (.Tuple [a, b, c] k2 pt2) X.env = pure (some [x, y, z]))
    (hs : swapsWithSole [.Tuple [.Name x px, .Name y py, .Name z pz] kt pt] (.Tuple [a, b, c] k2 pt2) pos.line X.env = pure false := by rfl) :
    DS C X Wx (.Assign [.Tuple [.Name x px, .Name y py, .Name z pz] kt pt] (.Tuple [a, b, c] k2 pt2) pos) (sPar3 i j l fa) := PS.imp (ps_par3 hc hN hi hj hl hij hil hjl hx hy hz ha hw hs) fun En σ H h => by
  obtain ⟨W, env, s, e, q⟩ := h
  refine ⟨W, env, s, e, Res.fl q fun W1 H1 s1 ds vs l1 e1 r q => ?_⟩
  match ds, r, q with
  | [], _, q => exact q.elim
  | [_], _, q => exact q.elim
  | [_, _], _, q => exact q.elim
  | _ :: _ :: _ :: _ :: _, _, q => exact q.elim
  | [d1, d2, d3], r, q =>
    obtain ⟨v1, rs, rfl, k1, k2⟩ := r
    obtain ⟨v2, v3, rfl, k2, k3⟩ := rds2 k2
    exact ⟨v1, v2, v3, rfl, ResS.here q (((e1.set i k1).set j k2).set l k3)⟩
end

/-! ### tags: a value that is known again -/
def gTag (i : Nat) : Gx := fun d e s => .ok (e.set i (some (.tag s.tg d))) ⟨s.mo, s.tg + 1⟩
def Wd.mark (W : Wd) (v : V) : Wd := { W with ts := W.ts ++ [v] }
section
variable {C : Cfg} {K : PySem.W.Frag} {W : Wd} {H : Hp} {s : S}
theorem Le.mark (t : StS C K W H s) (v : V) : Le W H s (W.mark v) H ⟨s.mo, s.tg + 1⟩ := ⟨fun _ h => h, fun _ _ h => h, fun i u h => by
  show (W.ts ++ [v])[i]? = some u
  rw [List.getElem?_append_left (List.getElem?_eq_some_iff.mp h).1]
  exact h, fun _ _ h _ _ => h, fun _ h => h, fun _ h => h, (fun i a hi h => by
    have h : W.al[i]? = some a := h
    rw [List.getElem?_eq_none hi] at h
    cases h), fun _ h => .inl h⟩
theorem StS.mark (t : StS C K W H s) (v : V) : StS C K (W.mark v) H ⟨s.mo, s.tg + 1⟩ := by
  have l := Le.mark t v
  refine ⟨t.len, ?_, t.nod, fun i o a h1 h2 => mok_later l t (fun _ z => z) (t.mo i o a h1 h2), t.fz, t.alh, tbs_mono t.tb fun _ h => h⟩
  show (W.ts ++ [v]).length = s.tg + 1
  rw [List.length_append, t.tln]
  rfl
end
section
variable {C : Cfg} {X : Cx} {pos : Pos}
theorem dg_tag {i : Nat} {x : Str} (hN : X.N.Nodup) (hi : X.N[i]? = some x) (hx : Loc X.env.scope x) (hf : X.fn x = true ∨ X.env.scope.names.lookup x = some .local := by first | exact .inl rfl | exact .inr rfl | assumption) : DG C X (.Name x pos) (gTag i) :=
  PG.imp (pg_name hN hi hx hf) fun v σ H Q h => by
    obtain ⟨W, env, s, d, e, r, q⟩ := h
    have l := Le.mark e.st v
    have t := e.st.mark v
    refine q (W.mark v) _ H l ((e.later l t).set i ⟨?_, r.mono l e.st⟩)
    show (W.ts ++ [v])[s.tg]? = some v
    rw [← e.st.tln, List.getElem?_append_right (Nat.le_refl _), Nat.sub_self]
    rfl
end
end DV
end
section
set_option Elab.async false
set_option linter.all false
set_option maxRecDepth 100000
/-! DK: dict comprehensions whose keys are tuples, and over data. -/
namespace DV
open PySem PySem.Spec PyProof.Rows L2

/-- one entry of a dict of tuple keys, set by a comprehension -/
theorem set_tk {X : Cx} {pn : List (Addr × Obj)} {σ : L2.St} {H : Hp} {sh : Shared} {Er : Value → Shared → Prop} {d b : Addr} {kvs : List (List Key × V)} {k : List Key} {v : V} {u : Value} {Q : Unit → Shared → Prop} (hu : X.A.units + 1 < cLine)
    (J : Inv X pn σ H sh) (ed : H d = some (.dT kvs)) (eb : H b = some (.tup (k.map kV))) (hz : kvs.length < sizeLine) (ru : RelV v u) (go : ∀ sh', Inv X pn σ (L2.upd H d (.dT (putK kvs k v))) sh' → Q () sh') :
    wpAny (model X.prog X.w) X.A (dictSet d (.ref b) u) Q Er sh := by
  obtain ⟨z, low, xs, rel, at_⟩ := dt_of J.hok ed
  have n1 : xs.length ≤ sizeLine := (Paired.length rel) ▸ z
  have n2 := length_putK kvs k v
  refine wpAny_dictSet_heap (hsz := n1) (show X.A.units < cLine by omega) (key_of J.hok eb) at_ fun hp at2 same => go _ ?_
  obtain ⟨ob, es, ep, q1, q2, q3, q4, _, q5⟩ := at2
  refine d_write J (by rw [ed]; exact trivial) same ⟨ob, q1⟩ ⟨by omega, low, _, (rel.put k eb ru).keeps fun c ys ec => ?_, ob, es, ep, q1, q2, q3, q4, q5⟩
  rw [upd_ne (ne_of ec ed fun z => nomatch z)]
  exact ec

/-- what a dict comprehension of tuple keys asks: R the loop's invariant -/
def tDcT (wi : TI) (g : TG) (tt : TT) (tk tv : TE) (vs : List Nat) : TE := fun σ H Q => wi σ H fun J H1 => ∀ d, H1 d = none → ∃ R : Nat → Nat → Hp → Prop, (∃ m, R 0 m (L2.upd H1 d (.dT []))) ∧
  ∀ i m H, R i m H → (J.stop i H ∧ Q (.ref d) H) ∨ (J.go i H ∧ ∃ Nx : Hp → Prop, (∀ H', Nx H' → ∃ m', m' < m ∧ R (i + 1) m' H') ∧
    ∀ x H', J.yld i H x H' → g x (wipe σ vs) H' fun σ2 H2 => wipe σ2 vs = wipe σ vs ∧ tt σ2 H2 fun b H3 => if b = true then tk σ2 H3 fun y H4 => tv σ2 H4 fun z H5 =>
      ∃ kvs k c, y = .ref c ∧ H5 c = some (.tup (k.map kV)) ∧ H5 d = some (.dT kvs) ∧ kvs.length < sizeLine ∧ Nx (L2.upd H5 d (.dT (putK kvs k z))) else Nx H3)
section
variable {X : Cx}
theorem pe_dcT {kx vx tg iter : Expr} {ifs : List Expr} {scope : Scope} {own : List (Str × Nat)} {pos : Pos} {wi : TI} {g : TG} {tt : TT} {tk tv : TE} (hu : X.A.units + 1 < cLine) (hc : X.calm = true) (hN : X.N.Nodup) (hi : PI X tg iter wi) (ok : BlkOk X.N X.env.scope scope own)
    (hg : ∀ (sh : Shared) (H : Hp) (b : Addr) (cl : List (Str × Addr)) (fp : List Addr), PG (X.blk sh H scope (compEnvC scope cl b X.env) fp) tg g)
    (ht : ∀ (sh : Shared) (H : Hp) (b : Addr) (cl : List (Str × Addr)) (fp : List Addr), PTs (X.blk sh H scope (compEnvC scope cl b X.env) fp) ifs tt)
    (hk : ∀ (sh : Shared) (H : Hp) (b : Addr) (cl : List (Str × Addr)) (fp : List Addr), PE (X.blk sh H scope (compEnvC scope cl b X.env) fp) kx tk)
    (hv : ∀ (sh : Shared) (H : Hp) (b : Addr) (cl : List (Str × Addr)) (fp : List Addr), PE (X.blk sh H scope (compEnvC scope cl b X.env) fp) vx tv) (hs : ∀ x, foldedSetIterable iter X.env x = pure x := by intro _; rfl) :
    PE X (.DictComp kx vx [⟨tg, iter, ifs, 0⟩] scope pos) (tDcT wi g tt tk tv (own.map (·.2))) := by
  refine ⟨fun pn sh0 σ H Q J0 h => ?_⟩
  rw [arm_eval_DictComp]
  have fr : ∀ y ∈ scope.names, y.2 = .free → ∃ c, X.env.cells.lookup y.1 = some c := fun y hy e => (ok.free y hy e).elim (fun z => J0.ok.has _ (.inl z)) fun z => J0.ok.has _ (.inr z)
  refine wpAny_comprehension_free rfl hs (closure_ok fr) ok.kind (fun y hy e => by rw [ok.uniq y hy, e]) (thn (hi.run pn sh0 σ H _ J0 h) fun v1 sh1 y1 => thn y1 fun v2 sh2 y2 => ?_)
  obtain ⟨it, fp, tn, It1, Ha, e, Ja, Tu, sa, fa, q⟩ := y2
  subst e
  refine wpAny_newObj_type (newEnv_comp ?_)
  -- the new dict lies at d
  obtain ⟨d, ed⟩ : ∃ d, sh2.heap.objs.size = d := ⟨_, rfl⟩
  rw [ed]
  have free_d : Ha d = none := Ja.hok.fresh (Nat.le_of_eq ed)
  obtain ⟨R, ⟨m0, R0⟩, turn⟩ := q d free_d
  let sh3 : Shared := { sh2 with heap := sh2.heap.push { cls := .type "dict", data := .dict #[] } }
  have Jb : Inv X pn σ (L2.upd Ha d (.dT [])) sh3 := by
    refine Ja.laid (t' := sh2.toks) (fun b o z => Heap.get?_push_of_some _ z) (Nat.le_of_eq ed) ?_
    rw [← ed]
    exact dt_empty sh2.heap Ja.big
  have below : ∀ b ∈ fp, b < sh2.heap.objs.size := fun b hb => let ⟨o, z, _⟩ := Tu.obj _ _ sa b hb; Heap.lt_size z
  have fb : ∀ b ∈ fp, FpOk X pn (L2.upd Ha d (.dT [])) b ∧ b < sh3.heap.objs.size := fun b hb => by
    have lt := below b hb
    have ne : b ≠ d := fun z => Nat.lt_irrefl _ (by rw [← ed] at z; rw [z] at lt; exact lt)
    refine ⟨⟨?_, (fa b hb).2⟩, ?_⟩
    · rw [upd_ne ne]
      exact (fa b hb).1
    · show b < (sh2.heap.push _).objs.size
      rw [Heap.size_push]
      exact Nat.lt_succ_of_lt lt
  have sb : tn 0 sh3.heap := Tu.keep _ _ _ sa fun b _ o z => Heap.get?_push_of_some _ z
  obtain ⟨cl, ecl⟩ : ∃ cl, cellsFrom (sh3.heap.objs.size + 1) scope.names (cloFrom X.env.cells scope.names []) = cl := ⟨_, rfl⟩
  obtain ⟨B, eB⟩ : ∃ B, sh3.heap.objs.size = B := ⟨_, rfl⟩
  have Jc := block_start Jb ok hN fb
  have pg := hg sh3 (L2.upd Ha d (.dT [])) B cl fp
  have pt := ht sh3 (L2.upd Ha d (.dT [])) B cl fp
  have pk := hk sh3 (L2.upd Ha d (.dT [])) B cl fp
  have pv := hv sh3 (L2.upd Ha d (.dT [])) B cl fp
  rw [ecl, eB] at Jc
  have none_fp : ∀ b ∈ fp, (L2.upd Ha d (.dT [])) b = none := fun b hb => (fb b hb).1.1
  suffices main : ∀ (ce : PySem.Env) (sh4 : Shared), ce = compEnvC scope cl B X.env → sh4 = { sh3 with heap := pushCells (sh3.heap.push { cls := .type "dict", data := .dict #[] }) scope.names } →
      codeAny (model X.prog X.w) X.A (.compStart (.DictComp kx vx [⟨tg, iter, ifs, 0⟩] scope pos) 0 (.ref it) (.ref d) ce) (compPost (model X.prog X.w) X.A X.xe none (EP X pn σ Q) (.ref d) B) sh4 by
    have z := main _ _ rfl rfl
    rw [← ecl, ← eB] at z
    rw [← ed] at z ⊢
    exact z
  intro ce sh4 ece e4
  rw [← ece] at Jc pg pt pk pv
  rw [← e4] at Jc
  have cL : ce.locals = B := by rw [ece]; rfl
  obtain ⟨Hb, eHb⟩ : ∃ Hb, L2.upd Ha d (.dT []) = Hb := ⟨_, rfl⟩
  rw [eHb] at Jb Jc pg pt pk pv R0 none_fp fb
  have sc : tn 0 sh4.heap := Tu.keep _ _ _ sb fun b _ o z => by
    rw [e4]
    exact pushCells_keeps _ _ _ _ (Heap.get?_push_of_some _ z)
  let Y : Cx := X.blk sh3 Hb scope ce fp
  have mine : ∀ {σ' : L2.St} {H' : Hp} {sh' : Shared}, Inv Y [] σ' H' sh' → (∀ b ∈ fp, H' b = none) → ∀ b ∈ fp, FpOk Y [] H' b := fun {σ' H' sh'} J' z b hb =>
    ⟨z b hb, (J'.ok.exf b hb).1, J'.ok.exfs b hb, .inl hb, fun x c w => (J'.ok.exf b hb).2 x c w, fun p hp => absurd (show p ∈ ([] : List (Addr × Obj)) ++ [] from hp) (by simp)⟩
  have run : codeAny (model X.prog X.w) X.A (.compLoop (.DictComp kx vx [⟨tg, iter, ifs, 0⟩] scope pos) 0 (.ref it) (.ref d) ce) (compPost (model X.prog X.w) X.A X.xe none (EP X pn σ Q) (.ref d) B) sh4 := by
    refine compLoop_anyD (fun m sh' => ∃ i H', Inv Y [] (wipe σ (own.map (·.2))) H' sh' ∧ tn i sh'.heap ∧ (∀ b ∈ fp, H' b = none) ∧ R i m H') ?_ m0 ⟨0, Hb, Jc, sc, none_fp, R0⟩
    rintro m sh5 ⟨i, Hc, Jd, sd, nd, rd⟩
    rcases turn i m Hc rd with ⟨stop, post⟩ | ⟨go, Nx, hNx, step⟩
    · refine thnF (Tu.done Y rfl rfl rfl hc i [] sh5 _ Hc (fun _ _ => False) Jd (mine Jd nd) sd stop) fun r sh6 ⟨er, Je⟩ => ?_
      subst er
      have Jx : Inv X pn σ Hc sh6 := Jb.call' (ch := fp) Je.os Je.base Je.hok Je.bare fun b hb => let z := (fb b hb).1.2; ⟨z.2.2.1, z.1, z.2.2.2.1, z.2.2.2.2⟩
      have nB : Hc B = none := cL ▸ (show Hc ce.locals = none from Je.free)
      obtain ⟨ns, hns, _⟩ := Je.loc
      have hns : sh6.heap.Ns B ns := cL ▸ (show sh6.heap.Ns ce.locals ns from hns)
      obtain ⟨f0, f1, f2, f3, f4, f5⟩ := Jb.fpOk (H' := Hc) (Nat.le_of_eq eB) nB
      exact ⟨ns, hns, fun h'' same => ⟨.ref d, Hc, Jx.turned (t' := sh6.toks) (fun b o hb z => (same.2 b hb).trans z) f0 f1 f3 f4 f5, rfl, post⟩⟩
    · refine thnF (Tu.item Y rfl rfl rfl hc i [] sh5 _ Hc (fun _ _ => False) Jd (mine Jd nd) sd go) fun r sh6 ⟨u, er, h6⟩ => ?_
      subst er
      refine thnF h6 fun _ sh7 ⟨x, He, Jf, rx, yx, s7, n7⟩ => ?_
      have Jg := Jf.pinned (mine Jf n7) (Tu.obj _ _ s7)
      refine thnF (pg.run _ sh7 _ He x u _ Jg rx (step x He yx)) fun _ sh8 ⟨σ8, H8, J8, w8, q8⟩ => ?_
      refine thnF (pt.run _ sh8 σ8 H8 _ J8 q8) fun b sh9 ⟨H9, J9, q9⟩ => ?_
      have next : ∀ {sh' : Shared} {H' : Hp}, Inv Y ([] ++ pinsAt fp sh7.heap) σ8 H' sh' → Nx H' → ∃ m', m' < m ∧ ∃ i H', Inv Y [] (wipe σ (own.map (·.2))) H' sh' ∧ tn i sh'.heap ∧ (∀ b ∈ fp, H' b = none) ∧ R i m' H' := fun {sh' H'} J' nx => by
        obtain ⟨m', lt, r'⟩ := hNx H' nx
        have held : ∀ b ∈ fp, ∀ o, sh7.heap.get? b = some o → sh'.heap.get? b = some o ∧ H' b = none := fun b hb o z =>
          let w := J'.pin (b, o) (List.mem_append_right _ (List.mem_append_right _ (mem_pinsAt hb z)))
          ⟨w.1, w.2.1⟩
        refine ⟨m', lt, i + 1, H', (J'.unpinned (pins := [])).weak (by rw [← w8, wipe_length]) (fun j v z => ?_), Tu.keep _ _ _ s7 fun b hb o z => (held b hb o z).1, fun b hb => ?_, r'⟩
        · rw [← w8] at z
          exact (wipe_some z).1
        · obtain ⟨o, z, _⟩ := Tu.obj _ _ s7 b hb
          exact (held b hb o z).2
      cases b with
      | false => exact next J9 q9
      | true =>
        refine thnF (pk.run _ sh9 σ8 H9 _ J9 q9) fun kv sh10 ⟨y, H10, J10, ry, q10⟩ => ?_
        refine thnF (pv.run _ sh10 σ8 H10 _ J10 q10) fun vv sh11 ⟨z, H11, J11, rz, kvs, k, c, ec, hc11, hd11, hz11, nx⟩ => ?_
        subst ec
        obtain rfl : kv = Value.ref c := ry
        exact set_tk (X := Y) hu J11 hd11 hc11 hz11 rz fun sh12 J12 => next J12 nx
  exact codeAny_compStart_dict run (Tu.self X.A 0 _ _ _ sc run)
end
/-! {k: v for ..}, keys numbers or texts -/
noncomputable def dcRunK (c : CT) (t : Tx) (fk fv : Ex) (vs : List Nat) (w : Wk) (e : Env) : List D → List D → List D → S → Out (List D × List D)
  | [], ka, va, s => if w.same s then .ok (ka, va) s else .stuck
  | d :: ds, ka, va, s => if w.same s then (match c.bind d (wipeE e vs) s with
    | some e1 => (t e1 s).bind fun b s1 => if b = true then (fk e1 s1).bind fun y s2 => (fv e1 s2).bind fun z s3 => (match kD y with
        | some q => if ka.length < sizeLine then dcRunK c t fk fv vs w e ds (putKD ka va q z).1 (putKD ka va q z).2 s3 else .stuck
        | none => .stuck) else dcRunK c t fk fv vs w e ds ka va s1
    | none => .stuck) else .stuck
def OutK (o : Out (List D × List D)) : Out D := match o with
  | .ok p s => .ok (.dct p.1 p.2) s
  | _ => .stuck
noncomputable def xDcK (ix : Ix) (c : CT) (t : Tx) (fk fv : Ex) (vs : List Nat) : Ex := fun e s => (ix e s).bind fun w s => OutK (dcRunK c t fk fv vs w e w.items [] [] s)
section
variable {C : Cfg} {X : Cx} {Wx : WX} {ix : Ix} {c : CT} {ft : Tx} {fk fv : Ex} {vs : List Nat}
theorem tD_dcK {K : PySem.W.Frag} (hw : ∀ i ∈ c.slots, i ∈ vs) : ∀ σ H Q, tD C K Wx (xDcK ix c ft fk fv vs) σ H Q → tDc (tI C K Wx ix) (c.tg K) (tT C K W0 ft) (tD C K W0 fk) (tD C K W0 fv) vs σ H Q := fun σ H Q h => by
  obtain ⟨W, env, s, e, q⟩ := h
  refine ⟨W, env, s, e, ?_⟩
  unfold xDcK at q
  cases hix : ix env s with
  | exc c vs s1 =>
    rw [hix] at q
    exact q
  | stuck =>
    rw [hix] at q
    exact q
  | ok w s1 =>
  rw [hix] at q
  intro W1 H1 J l1 e1 giv
  have giv := giv s1 e1.st
  intro d hD
  have nF : ¬ W1.F d := fun z => (e1.st.fz d z).1 hD
  have nA : d ∉ W1.al := fun z => e1.st.alh d z hD
  have ntd : ∀ xs, ntb (HO.dK xs) := fun _ _ z => nomatch z
  have q : Res C K (fun W H => RD C K W H) Wx σ env W H s (OutK (dcRunK c ft fk fv vs w env w.items [] [] s1)) Q := q
  let fin : List D × List D → S → Prop := fun p s3 => ∀ W' H' (kvs : List (Key × V)), Le W1 H1 s1 W' H' s3 → StE C K W' H' σ env s3 → ¬ W'.F d → d ∉ W'.al → H1 d = none → H' d = some (HO.dK kvs) → p.1 = kvs.map (fun p : Key × V => keyD p.1) → RDs C K W' H' p.2 (kvs.map (·.2)) → Q (.ref d) H'
  let Inv1 : Nat → Hp → Prop := fun i H' => ∃ (W2 : Wd) (s2 : S) (kvs : List (Key × V)) (va : List D), Le W1 H1 s1 W2 H' s2 ∧ StE C K W2 H' σ env s2 ∧ ¬ W2.F d ∧ d ∉ W2.al ∧ H' d = some (HO.dK kvs) ∧ RDs C K W2 H' va (kvs.map (·.2)) ∧
      ∃ p s3, dcRunK c ft fk fv vs w env (w.items.drop i) (kvs.map fun p : Key × V => keyD p.1) va s2 = .ok p s3 ∧ fin p s3
  have key : ∃ p s3, dcRunK c ft fk fv vs w env w.items [] [] s1 = .ok p s3 ∧ fin p s3 := by
    cases hr : dcRunK c ft fk fv vs w env w.items [] [] s1 with
    | ok p s3 =>
      rw [hr] at q
      refine ⟨p, s3, rfl, fun W' H' kvs l e2 n1 n2 hp hd hk r => ?_⟩
      have lf : Lf W' H' (W'.add d) H' := ⟨fun _ h => .inl h, fun _ _ h => h, fun _ _ h => h, fun _ _ _ h => h⟩
      have q : Res C K (fun W H => RD C K W H) Wx σ env W H s (.ok (.dct p.1 p.2) s3) Q := q
      refine q.ok' ((l1.trans l).addF (l1.wasNone hp)) (e2.addF (by rw [hd]; exact fun z => nomatch z) (fun o z => by rw [hd] at z; cases z; exact ntd _) n2) ⟨d, kvs.map (·.2), rfl, .inr rfl, .inl ⟨kvs, hd, hk, rfl⟩, r.lf lf⟩
    | exc _ _ _ => rw [hr] at q; exact q.elim
    | stuck => rw [hr] at q; exact q.elim
  refine ⟨fun i m H' => m = w.items.length - i ∧ i ≤ w.items.length ∧ Inv1 i H', ⟨w.items.length, by omega, Nat.zero_le _, W1, s1, [], [], Le.fresh hD, e1.upd nF nA (.none hD), nF, nA, upd_same, rfl, key⟩, ?_⟩
  rintro i m H2 ⟨rfl, hi, W2, s2, kvs, va, l2, e2, nF2, nA2, hD2, r2, p, s3, hrun, hfin⟩
  have gv := giv W2 H2 s2 l2 e2.st
  have outF : ∀ {W5 : Wd} {H5 : Hp} {s5 : S}, Le W2 H2 s2 W5 H5 s5 → ¬ W5.F d ∧ d ∉ W5.al ∧ H5 d = some (HO.dK kvs) := fun {W5 H5 s5} l5 => by
    refine ⟨fun z => ?_, fun z => ?_, l5.ext d _ hD2 (ntd _) fun i hi => absurd (List.mem_of_getElem? hi) nA2⟩
    · rcases l5.nw d z with z | z | z
      · exact nF2 z
      · rw [hD2] at z
        cases z
      · exact nA2 z
    · rcases l5.old z with z | z
      · exact nA2 z
      · rw [hD2] at z
        cases z
  by_cases hlt : i < w.items.length
  · have hd : w.items.drop i = w.items[i] :: w.items.drop (i + 1) := List.drop_eq_getElem_cons hlt
    rw [hd] at hrun
    unfold dcRunK at hrun
    by_cases hs : w.same s2
    · rw [if_pos hs] at hrun
      obtain ⟨_, h2⟩ := gv hs i
      obtain ⟨go, yl⟩ := h2 _ (List.getElem?_eq_getElem hlt)
      refine .inr ⟨go, fun H' => i + 1 ≤ w.items.length ∧ Inv1 (i + 1) H', fun H' ⟨a, b⟩ => ⟨w.items.length - (i + 1), by omega, rfl, a, b⟩, fun x H3 y => ?_⟩
      obtain ⟨W3, l3, t3, r3⟩ := yl x H3 y
      have e3 := (e2.later l3 t3).wipe vs
      cases hb : c.bind w.items[i] (wipeE env vs) s2 with
      | none => rw [hb] at hrun; cases hrun
      | some e4 =>
        rw [hb] at hrun
        have hrun : ((ft e4 s2).bind fun b s1 => if b = true then (fk e4 s1).bind fun y s2 => (fv e4 s2).bind fun z s3 => (match kD y with
          | some q => if (kvs.map fun p : Key × V => keyD p.1).length < sizeLine then dcRunK c ft fk fv vs w env (w.items.drop (i + 1)) (putKD (kvs.map fun p : Key × V => keyD p.1) va q z).1 (putKD (kvs.map fun p : Key × V => keyD p.1) va q z).2 s3 else .stuck
          | none => .stuck) else dcRunK c ft fk fv vs w env (w.items.drop (i + 1)) (kvs.map fun p : Key × V => keyD p.1) va s1) = .ok p s3 := hrun
        refine CT.take e3 r3 hb hw fun σ4 e4' hw4 => ⟨by rw [hw4, wipe_idem], W3, e4, s2, e4', ?_⟩
        cases hft : ft e4 s2 with
        | exc _ _ _ => rw [hft] at hrun; cases hrun
        | stuck => rw [hft] at hrun; cases hrun
        | ok b s4 =>
          rw [hft] at hrun
          intro W4 H4 b' l4 e5 hbb
          have hbb : b = b' := hbb
          subst hbb
          have l34 := l3.trans l4
          cases b with
          | false =>
            obtain ⟨o1, o2, o3⟩ := outF l34
            exact ⟨hlt, W4, s4, kvs, va, l2.trans l34, e2.later l34 e5.st, o1, o2, o3, r2.mono l34 e2.st, p, s3, hrun, hfin⟩
          | true =>
            have hrun : ((fk e4 s4).bind fun y s2 => (fv e4 s2).bind fun z s3 => (match kD y with
              | some q => if (kvs.map fun p : Key × V => keyD p.1).length < sizeLine then dcRunK c ft fk fv vs w env (w.items.drop (i + 1)) (putKD (kvs.map fun p : Key × V => keyD p.1) va q z).1 (putKD (kvs.map fun p : Key × V => keyD p.1) va q z).2 s3 else .stuck
              | none => .stuck)) = .ok p s3 := hrun
            refine ⟨W4, e4, s4, e5, ?_⟩
            cases hfk : fk e4 s4 with
            | exc _ _ _ => rw [hfk] at hrun; cases hrun
            | stuck => rw [hfk] at hrun; cases hrun
            | ok dy s5 =>
              rw [hfk] at hrun
              have hrun : ((fv e4 s5).bind fun z s3 => (match kD dy with
                | some q => if (kvs.map fun p : Key × V => keyD p.1).length < sizeLine then dcRunK c ft fk fv vs w env (w.items.drop (i + 1)) (putKD (kvs.map fun p : Key × V => keyD p.1) va q z).1 (putKD (kvs.map fun p : Key × V => keyD p.1) va q z).2 s3 else .stuck
                | none => .stuck)) = .ok p s3 := hrun
              intro W5 H5 y l5 e6 r5
              refine ⟨W5, e4, s5, e6, ?_⟩
              cases hfv : fv e4 s5 with
              | exc _ _ _ => rw [hfv] at hrun; cases hrun
              | stuck => rw [hfv] at hrun; cases hrun
              | ok dz s6 =>
                rw [hfv] at hrun
                have hrun : (match (generalizing := false) kD dy with
                  | some q => if (kvs.map fun p : Key × V => keyD p.1).length < sizeLine then dcRunK c ft fk fv vs w env (w.items.drop (i + 1)) (putKD (kvs.map fun p : Key × V => keyD p.1) va q dz).1 (putKD (kvs.map fun p : Key × V => keyD p.1) va q dz).2 s6 else .stuck
                  | none => .stuck) = .ok p s3 := hrun
                intro W6 H6 z l6 e7 r6
                cases hq : kD dy with
                | none => rw [hq] at hrun; cases hrun
                | some qk =>
                  rw [hq] at hrun
                  have hrun : (if (kvs.map fun p : Key × V => keyD p.1).length < sizeLine then dcRunK c ft fk fv vs w env (w.items.drop (i + 1)) (putKD (kvs.map fun p : Key × V => keyD p.1) va qk dz).1 (putKD (kvs.map fun p : Key × V => keyD p.1) va qk dz).2 s6 else .stuck) = .ok p s3 := hrun
                  by_cases hz : (kvs.map fun p : Key × V => keyD p.1).length < sizeLine
                  · rw [if_pos hz] at hrun
                    have l36 := (l34.trans l5).trans l6
                    obtain ⟨o1, o2, o3⟩ := outF l36
                    obtain ⟨k1, k2⟩ := putKD_rd (q := qk) (kvs := kvs) r6 (r2.mono l36 e2.st)
                    rw [k1] at hrun
                    have ey := kD_rd (r5.mono l6 e6.st) hq
                    exact ⟨kvs, qk, ey, o3, by rw [List.length_map] at hz; exact hz, hlt, W6, s6, putK kvs qk z, (putKD (kvs.map fun p : Key × V => keyD p.1) va qk dz).2, (l2.trans l36).over hD, (e2.later l36 e7.st).upd o1 o2 (.of o3 plain_dK), o1, o2, upd_same, k2.lf (Lf.upd o1), p, s3, hrun, hfin⟩
                  · rw [if_neg hz] at hrun
                    cases hrun
    · rw [if_neg hs] at hrun
      cases hrun
  · have hi' : i = w.items.length := by omega
    subst hi'
    rw [List.drop_length] at hrun
    unfold dcRunK at hrun
    by_cases hs : w.same s2
    · rw [if_pos hs] at hrun
      cases hrun
      exact .inl ⟨(gv hs _).1 rfl, hfin W2 H2 kvs l2 e2 nF2 nA2 hD hD2 rfl r2⟩
    · rw [if_neg hs] at hrun
      cases hrun
theorem de_dcK {tg iter kx vx : Expr} {ifs : List Expr} {scope : Scope} {own : List (Str × Nat)} {pos : Pos} (hc : X.calm = true) (hN : X.N.Nodup) (hi : DI C X Wx tg iter ix) (ok : BlkOk X.N X.env.scope scope own) (hw : ∀ i ∈ c.slots, i ∈ own.map (·.2))
    (hg : ∀ (s : Shared) (H : Hp) (A : Addr) (cl : List (Str × Addr)) (fp : List Addr), c.ok (X.blk s H scope (compEnvC scope cl A X.env) fp) tg)
    (ht : ∀ (s : Shared) (H : Hp) (A : Addr) (cl : List (Str × Addr)) (fp : List Addr), DTs C (X.blk s H scope (compEnvC scope cl A X.env) fp) ifs ft)
    (hk : ∀ (s : Shared) (H : Hp) (A : Addr) (cl : List (Str × Addr)) (fp : List Addr), DE C (X.blk s H scope (compEnvC scope cl A X.env) fp) W0 kx fk)
    (hv : ∀ (s : Shared) (H : Hp) (A : Addr) (cl : List (Str × Addr)) (fp : List Addr), DE C (X.blk s H scope (compEnvC scope cl A X.env) fp) W0 vx fv) (hs : ∀ x, foldedSetIterable iter X.env x = pure x := by intro _; rfl) :
    DE C X Wx (.DictComp kx vx [⟨tg, iter, ifs, 0⟩] scope pos) (xDcK ix c ft fk fv (own.map (·.2))) :=
  PE.imp (pe_dc (tt := tT C X.K W0 ft) (tk := tD C X.K W0 fk) (tv := tD C X.K W0 fv) (g := c.tg X.K) hc hN hi ok (fun s H A cl fp => CT.pg (hg s H A cl fp)) (fun s H A cl fp => ht s H A cl fp) (fun s H A cl fp => hk s H A cl fp) (fun s H A cl fp => hv s H A cl fp) hs) (tD_dcK hw)
end

abbrev tupD (k : List Key) : D := .tup (k.map keyD)

/-! {k: v for ..}, keys tuples -/
noncomputable def dcRunT (c : CT) (t : Tx) (fk fv : Ex) (vs : List Nat) (w : Wk) (e : Env) : List D → List D → List D → S → Out (List D × List D)
  | [], ka, va, s => if w.same s then .ok (ka, va) s else .stuck
  | d :: ds, ka, va, s => if w.same s then (match c.bind d (wipeE e vs) s with
    | some e1 => (t e1 s).bind fun b s1 => if b = true then (fk e1 s1).bind fun y s2 => (fv e1 s2).bind fun z s3 => (match kTD y with
        | some q => if ka.length < sizeLine then dcRunT c t fk fv vs w e ds (putTD ka va q z).1 (putTD ka va q z).2 s3 else .stuck
        | none => .stuck) else dcRunT c t fk fv vs w e ds ka va s1
    | none => .stuck) else .stuck
def OutT (o : Out (List D × List D)) : Out D := match o with
  | .ok p s => if p.1.isEmpty = true then .stuck else .ok (.dct p.1 p.2) s
  | _ => .stuck
noncomputable def xDcT (ix : Ix) (c : CT) (t : Tx) (fk fv : Ex) (vs : List Nat) : Ex := fun e s => (ix e s).bind fun w s => OutT (dcRunT c t fk fv vs w e w.items [] [] s)
section
variable {C : Cfg} {X : Cx} {Wx : WX} {ix : Ix} {c : CT} {ft : Tx} {fk fv : Ex} {vs : List Nat}
theorem tD_dcT {K : PySem.W.Frag} (hw : ∀ i ∈ c.slots, i ∈ vs) : ∀ σ H Q, tD C K Wx (xDcT ix c ft fk fv vs) σ H Q → tDcT (tI C K Wx ix) (c.tg K) (tT C K W0 ft) (tD C K W0 fk) (tD C K W0 fv) vs σ H Q := fun σ H Q h => by
  obtain ⟨W, env, s, e, q⟩ := h
  refine ⟨W, env, s, e, ?_⟩
  unfold xDcT at q
  cases hix : ix env s with
  | exc c vs s1 =>
    rw [hix] at q
    exact q
  | stuck =>
    rw [hix] at q
    exact q
  | ok w s1 =>
  rw [hix] at q
  intro W1 H1 J l1 e1 giv
  have giv := giv s1 e1.st
  intro d hD
  have nF : ¬ W1.F d := fun z => (e1.st.fz d z).1 hD
  have nA : d ∉ W1.al := fun z => e1.st.alh d z hD
  have ntd : ∀ xs, ntb (HO.dT xs) := fun _ _ z => nomatch z
  have q : Res C K (fun W H => RD C K W H) Wx σ env W H s (OutT (dcRunT c ft fk fv vs w env w.items [] [] s1)) Q := q
  let fin : List D × List D → S → Prop := fun p s3 => ∀ W' H' (kvs : List (List Key × V)), Le W1 H1 s1 W' H' s3 → StE C K W' H' σ env s3 → ¬ W'.F d → d ∉ W'.al → H1 d = none → H' d = some (HO.dT kvs) → p.1 = kvs.map (fun p : List Key × V => tupD p.1) → RDs C K W' H' p.2 (kvs.map (·.2)) → Q (.ref d) H'
  let Inv1 : Nat → Hp → Prop := fun i H' => ∃ (W2 : Wd) (s2 : S) (kvs : List (List Key × V)) (va : List D), Le W1 H1 s1 W2 H' s2 ∧ StE C K W2 H' σ env s2 ∧ ¬ W2.F d ∧ d ∉ W2.al ∧ H' d = some (HO.dT kvs) ∧ RDs C K W2 H' va (kvs.map (·.2)) ∧
      ∃ p s3, dcRunT c ft fk fv vs w env (w.items.drop i) (kvs.map fun p : List Key × V => tupD p.1) va s2 = .ok p s3 ∧ fin p s3
  have key : ∃ p s3, dcRunT c ft fk fv vs w env w.items [] [] s1 = .ok p s3 ∧ fin p s3 := by
    cases hr : dcRunT c ft fk fv vs w env w.items [] [] s1 with
    | ok p s3 =>
      rw [hr] at q
      refine ⟨p, s3, rfl, fun W' H' kvs l e2 n1 n2 hp hd hk r => ?_⟩
      have lf : Lf W' H' (W'.add d) H' := ⟨fun _ h => .inl h, fun _ _ h => h, fun _ _ h => h, fun _ _ _ h => h⟩
      have q : Res C K (fun W H => RD C K W H) Wx σ env W H s (if p.1.isEmpty = true then .stuck else .ok (.dct p.1 p.2) s3) Q := q
      by_cases hz : p.1.isEmpty = true
      · rw [if_pos hz] at q
        exact q.elim
      rw [if_neg hz] at q
      refine q.ok' ((l1.trans l).addF (l1.wasNone hp)) (e2.addF (by rw [hd]; exact fun z => nomatch z) (fun o z => by rw [hd] at z; cases z; exact ntd _) n2) ⟨d, kvs.map (·.2), rfl, .inr rfl, .inr ⟨kvs, hd, hk, rfl, by intro z; rw [z] at hk; exact hz (by rw [hk]; rfl)⟩, r.lf lf⟩
    | exc _ _ _ => rw [hr] at q; exact q.elim
    | stuck => rw [hr] at q; exact q.elim
  refine ⟨fun i m H' => m = w.items.length - i ∧ i ≤ w.items.length ∧ Inv1 i H', ⟨w.items.length, by omega, Nat.zero_le _, W1, s1, [], [], Le.fresh hD, e1.upd nF nA (.none hD), nF, nA, upd_same, rfl, key⟩, ?_⟩
  rintro i m H2 ⟨rfl, hi, W2, s2, kvs, va, l2, e2, nF2, nA2, hD2, r2, p, s3, hrun, hfin⟩
  have gv := giv W2 H2 s2 l2 e2.st
  have outF : ∀ {W5 : Wd} {H5 : Hp} {s5 : S}, Le W2 H2 s2 W5 H5 s5 → ¬ W5.F d ∧ d ∉ W5.al ∧ H5 d = some (HO.dT kvs) := fun {W5 H5 s5} l5 => by
    refine ⟨fun z => ?_, fun z => ?_, l5.ext d _ hD2 (ntd _) fun i hi => absurd (List.mem_of_getElem? hi) nA2⟩
    · rcases l5.nw d z with z | z | z
      · exact nF2 z
      · rw [hD2] at z
        cases z
      · exact nA2 z
    · rcases l5.old z with z | z
      · exact nA2 z
      · rw [hD2] at z
        cases z
  by_cases hlt : i < w.items.length
  · have hd : w.items.drop i = w.items[i] :: w.items.drop (i + 1) := List.drop_eq_getElem_cons hlt
    rw [hd] at hrun
    unfold dcRunT at hrun
    by_cases hs : w.same s2
    · rw [if_pos hs] at hrun
      obtain ⟨_, h2⟩ := gv hs i
      obtain ⟨go, yl⟩ := h2 _ (List.getElem?_eq_getElem hlt)
      refine .inr ⟨go, fun H' => i + 1 ≤ w.items.length ∧ Inv1 (i + 1) H', fun H' ⟨a, b⟩ => ⟨w.items.length - (i + 1), by omega, rfl, a, b⟩, fun x H3 y => ?_⟩
      obtain ⟨W3, l3, t3, r3⟩ := yl x H3 y
      have e3 := (e2.later l3 t3).wipe vs
      cases hb : c.bind w.items[i] (wipeE env vs) s2 with
      | none => rw [hb] at hrun; cases hrun
      | some e4 =>
        rw [hb] at hrun
        have hrun : ((ft e4 s2).bind fun b s1 => if b = true then (fk e4 s1).bind fun y s2 => (fv e4 s2).bind fun z s3 => (match kTD y with
          | some q => if (kvs.map fun p : List Key × V => tupD p.1).length < sizeLine then dcRunT c ft fk fv vs w env (w.items.drop (i + 1)) (putTD (kvs.map fun p : List Key × V => tupD p.1) va q z).1 (putTD (kvs.map fun p : List Key × V => tupD p.1) va q z).2 s3 else .stuck
          | none => .stuck) else dcRunT c ft fk fv vs w env (w.items.drop (i + 1)) (kvs.map fun p : List Key × V => tupD p.1) va s1) = .ok p s3 := hrun
        refine CT.take e3 r3 hb hw fun σ4 e4' hw4 => ⟨by rw [hw4, wipe_idem], W3, e4, s2, e4', ?_⟩
        cases hft : ft e4 s2 with
        | exc _ _ _ => rw [hft] at hrun; cases hrun
        | stuck => rw [hft] at hrun; cases hrun
        | ok b s4 =>
          rw [hft] at hrun
          intro W4 H4 b' l4 e5 hbb
          have hbb : b = b' := hbb
          subst hbb
          have l34 := l3.trans l4
          cases b with
          | false =>
            obtain ⟨o1, o2, o3⟩ := outF l34
            exact ⟨hlt, W4, s4, kvs, va, l2.trans l34, e2.later l34 e5.st, o1, o2, o3, r2.mono l34 e2.st, p, s3, hrun, hfin⟩
          | true =>
            have hrun : ((fk e4 s4).bind fun y s2 => (fv e4 s2).bind fun z s3 => (match kTD y with
              | some q => if (kvs.map fun p : List Key × V => tupD p.1).length < sizeLine then dcRunT c ft fk fv vs w env (w.items.drop (i + 1)) (putTD (kvs.map fun p : List Key × V => tupD p.1) va q z).1 (putTD (kvs.map fun p : List Key × V => tupD p.1) va q z).2 s3 else .stuck
              | none => .stuck)) = .ok p s3 := hrun
            refine ⟨W4, e4, s4, e5, ?_⟩
            cases hfk : fk e4 s4 with
            | exc _ _ _ => rw [hfk] at hrun; cases hrun
            | stuck => rw [hfk] at hrun; cases hrun
            | ok dy s5 =>
              rw [hfk] at hrun
              have hrun : ((fv e4 s5).bind fun z s3 => (match kTD dy with
                | some q => if (kvs.map fun p : List Key × V => tupD p.1).length < sizeLine then dcRunT c ft fk fv vs w env (w.items.drop (i + 1)) (putTD (kvs.map fun p : List Key × V => tupD p.1) va q z).1 (putTD (kvs.map fun p : List Key × V => tupD p.1) va q z).2 s3 else .stuck
                | none => .stuck)) = .ok p s3 := hrun
              intro W5 H5 y l5 e6 r5
              refine ⟨W5, e4, s5, e6, ?_⟩
              cases hfv : fv e4 s5 with
              | exc _ _ _ => rw [hfv] at hrun; cases hrun
              | stuck => rw [hfv] at hrun; cases hrun
              | ok dz s6 =>
                rw [hfv] at hrun
                have hrun : (match (generalizing := false) kTD dy with
                  | some q => if (kvs.map fun p : List Key × V => tupD p.1).length < sizeLine then dcRunT c ft fk fv vs w env (w.items.drop (i + 1)) (putTD (kvs.map fun p : List Key × V => tupD p.1) va q dz).1 (putTD (kvs.map fun p : List Key × V => tupD p.1) va q dz).2 s6 else .stuck
                  | none => .stuck) = .ok p s3 := hrun
                intro W6 H6 z l6 e7 r6
                cases hq : kTD dy with
                | none => rw [hq] at hrun; cases hrun
                | some qk =>
                  rw [hq] at hrun
                  have hrun : (if (kvs.map fun p : List Key × V => tupD p.1).length < sizeLine then dcRunT c ft fk fv vs w env (w.items.drop (i + 1)) (putTD (kvs.map fun p : List Key × V => tupD p.1) va qk dz).1 (putTD (kvs.map fun p : List Key × V => tupD p.1) va qk dz).2 s6 else .stuck) = .ok p s3 := hrun
                  by_cases hz : (kvs.map fun p : List Key × V => tupD p.1).length < sizeLine
                  · rw [if_pos hz] at hrun
                    have l36 := (l34.trans l5).trans l6
                    obtain ⟨o1, o2, o3⟩ := outF l36
                    obtain ⟨k1, k2⟩ := putTD_rd (q := qk) (kvs := kvs) r6 (r2.mono l36 e2.st)
                    rw [k1] at hrun
                    obtain ⟨b, ey, hb⟩ := kTD_rd (r5.mono l6 e6.st) hq
                    exact ⟨kvs, qk, b, ey, hb, o3, by rw [List.length_map] at hz; exact hz, hlt, W6, s6, putK kvs qk z, (putTD (kvs.map fun p : List Key × V => tupD p.1) va qk dz).2, (l2.trans l36).over hD, (e2.later l36 e7.st).upd o1 o2 (.of o3 plain_dT), o1, o2, upd_same, k2.lf (Lf.upd o1), p, s3, hrun, hfin⟩
                  · rw [if_neg hz] at hrun
                    cases hrun
    · rw [if_neg hs] at hrun
      cases hrun
  · have hi' : i = w.items.length := by omega
    subst hi'
    rw [List.drop_length] at hrun
    unfold dcRunT at hrun
    by_cases hs : w.same s2
    · rw [if_pos hs] at hrun
      cases hrun
      exact .inl ⟨(gv hs _).1 rfl, hfin W2 H2 kvs l2 e2 nF2 nA2 hD hD2 rfl r2⟩
    · rw [if_neg hs] at hrun
      cases hrun
theorem de_dcT {tg iter kx vx : Expr} {ifs : List Expr} {scope : Scope} {own : List (Str × Nat)} {pos : Pos} (hu : X.A.units + 1 < cLine) (hc : X.calm = true) (hN : X.N.Nodup) (hi : DI C X Wx tg iter ix) (ok : BlkOk X.N X.env.scope scope own) (hw : ∀ i ∈ c.slots, i ∈ own.map (·.2))
    (hg : ∀ (s : Shared) (H : Hp) (A : Addr) (cl : List (Str × Addr)) (fp : List Addr), c.ok (X.blk s H scope (compEnvC scope cl A X.env) fp) tg)
    (ht : ∀ (s : Shared) (H : Hp) (A : Addr) (cl : List (Str × Addr)) (fp : List Addr), DTs C (X.blk s H scope (compEnvC scope cl A X.env) fp) ifs ft)
    (hk : ∀ (s : Shared) (H : Hp) (A : Addr) (cl : List (Str × Addr)) (fp : List Addr), DE C (X.blk s H scope (compEnvC scope cl A X.env) fp) W0 kx fk)
    (hv : ∀ (s : Shared) (H : Hp) (A : Addr) (cl : List (Str × Addr)) (fp : List Addr), DE C (X.blk s H scope (compEnvC scope cl A X.env) fp) W0 vx fv) (hs : ∀ x, foldedSetIterable iter X.env x = pure x := by intro _; rfl) :
    DE C X Wx (.DictComp kx vx [⟨tg, iter, ifs, 0⟩] scope pos) (xDcT ix c ft fk fv (own.map (·.2))) :=
  PE.imp (pe_dcT (tt := tT C X.K W0 ft) (tk := tD C X.K W0 fk) (tv := tD C X.K W0 fv) (g := c.tg X.K) hu hc hN hi ok (fun s H A cl fp => CT.pg (hg s H A cl fp)) (fun s H A cl fp => ht s H A cl fp) (fun s H A cl fp => hk s H A cl fp) (fun s H A cl fp => hv s H A cl fp) hs) (tD_dcT hw)
end

end DV
end
section
set_option Elab.async false
set_option linter.all false
set_option maxRecDepth 100000
/-! DM: dict(pairs). -/
namespace DV
open PySem PySem.Spec PyProof.Rows L2

/-! ### dict(pairs), keys tuples -/
/-- pairs of a tuple key at an address and a value -/
abbrev QT := List Key × Addr × V
def QAt (H : Hp) (t : Addr) (q : QT) : Prop := H t = some (.tup [.ref q.2.1, q.2.2]) ∧ H q.2.1 = some (.tup (q.1.map kV))
abbrev PT3 := List Key × Addr × Value
def QRel (H : Hp) (q : QT) (r : PT3) : Prop := q.1 = r.1 ∧ q.2.1 = r.2.1 ∧ RelV q.2.2 r.2.2 ∧ H r.2.1 = some (.tup (r.1.map kV))
def kvT (qs : List QT) : List (List Key × V) := qs.foldl (fun acc q => putK acc q.1 q.2.2) []
theorem qt_of {X : Cx} {pins : List (Addr × Obj)} {σ : L2.St} {H : Hp} {s : Shared} (I : Inv X pins σ H s) : ∀ {ts : List Addr} {qs : List QT}, Paired (QAt H) ts qs → ∃ prs : List PT3, Paired (QRel H) qs prs ∧ prs.length = ts.length ∧
    ∀ (j : Nat) (r : PT3), prs[j]? = some r → ∃ b, ts[j]? = some b ∧ IsTup s.heap b #[.ref r.2.1, r.2.2]
  | _, _, .nil => ⟨[], .nil, rfl, fun j q e => by simp at e⟩
  | _, _, .cons (a := t) (b := q) h rest => by
    obtain ⟨prs, r, hl, hp⟩ := qt_of I rest
    obtain ⟨h1, h2⟩ := h
    obtain ⟨its, rv, ht, _⟩ := I.tuple (SqT.of h1)
    obtain ⟨u, y, ei, ru, ry⟩ := vals2 rv
    subst ei
    obtain rfl : u = Value.ref q.2.1 := ru
    refine ⟨(q.1, q.2.1, y) :: prs, .cons ⟨rfl, rfl, ry, h2⟩ r, by simp [hl], fun j w e => ?_⟩
    cases j with
    | zero =>
      cases e
      exact ⟨t, rfl, ht⟩
    | succ j => exact hp j w e
theorem kt_all {H : Hp} : ∀ {qs : List QT} {prs : List PT3} {acc : List (List Key × V)} {xs : List PT3}, Paired (QRel H) qs prs → KT H acc xs → KT H (qs.foldl (fun acc q => putK acc q.1 q.2.2) acc) (storedAllH xs prs)
  | _, _, acc, xs, .nil, h => h
  | _, _, acc, xs, .cons (a := q) (b := r) hq rest, h => by
    obtain ⟨h1, h2, h3, h4⟩ := hq
    exact kt_all (acc := putK acc q.1 q.2.2) (xs := storedH xs r.1 r.2.1 r.2.2) rest (by
      rw [← h1]
      exact h.put _ (by rw [h1]; exact h4) h3)
theorem len_fold : ∀ (qs : List QT) (acc : List (List Key × V)), (qs.foldl (fun acc q => putK acc q.1 q.2.2) acc).length ≤ acc.length + qs.length
  | [], acc => Nat.le_refl _
  | q :: qs, acc => by
    have h1 := len_fold qs (putK acc q.1 q.2.2)
    have h2 := length_putK acc q.1 q.2.2
    show (qs.foldl (fun acc q => putK acc q.1 q.2.2) (putK acc q.1 q.2.2)).length ≤ acc.length + (qs.length + 1)
    omega
def rDictT (K : PySem.W.Frag) : List V → Hp → VK → Prop := fun xs H Q => ∃ (a : Addr) (ts : List Addr) (qs : List QT), xs = [.ref a] ∧ SqL K H a (ts.map V.ref) ∧ Paired (QAt H) ts qs ∧ ∀ p, H p = none → Q (.ref p) (L2.upd H p (.dT (kvT qs)))
theorem cr_dictT {X : Cx} (hc : X.calm = true) (hu : X.A.units + 8 < cLine) : CallR X (.type "dict") (rDictT X.K) := fun pins s σ H xs us Q I r q => by
  obtain ⟨a, ts, qs, rfl, hq, hp, q⟩ := q
  obtain ⟨u, rfl, rx⟩ := vals1 r
  obtain rfl : u = Value.ref a := rx
  obtain ⟨its, rv, pl, hz⟩ := I.list hq
  have ei := refs_at rv
  subst ei
  rw [List.length_map] at hz
  obtain ⟨prs, rel, hl, hpr⟩ := qt_of I hp
  have lq : qs.length = prs.length := Paired.length rel
  have isk : ∀ x ∈ prs, (tupleKind (mixKind X.prog X.w)).is s.heap x.1 x.2.1 := by
    intro x hx
    obtain ⟨j, hj, ej⟩ := List.mem_iff_getElem.mp hx
    have : ∀ {qs : List QT} {ps : List PT3}, Paired (QRel H) qs ps → ∀ x ∈ ps, (tupleKind (mixKind X.prog X.w)).is s.heap x.1 x.2.1 := by
      intro qs ps h
      induction h with
      | nil => intro x hx; simp at hx
      | cons h t ih =>
        intro x hx
        rcases List.mem_cons.mp hx with e | hx
        · subst e
          exact key_of I.hok h.2.2.2
        · exact ih x hx
    exact this rel x hx
  let ps : List (Value × Value) := prs.map fun r => (Value.ref r.2.1, r.2.2)
  have lps : ps.length = prs.length := List.length_map _
  refine call_dict_pairsH (knd := tupleKind (mixKind X.prog X.w)) (wr := []) (ps := prs) (PairArg.list a (ts.map Value.ref).toArray (fun j => ts.getD j 0) ps) (I.ok.hd hc) (show X.A.units + 1 + 1 < cLine by omega) ⟨?_, ?_, ?_⟩ ⟨lps.symm, fun i key v hi => ?_⟩ (fun h' hk x hx => ?_) (by omega) fun h' tk hd hk => ?_
  · obtain ⟨o, n, h1, h2, h3, h4⟩ := pl
    exact ⟨o, n, h1, h2, h3, h4⟩
  · rw [lps, hl]
    simp
  · intro j k v hj
    have hj : (prs.map fun r => (Value.ref r.2.1, r.2.2))[j]? = some (k, v) := hj
    rw [List.getElem?_map] at hj
    cases hr : prs[j]? with
    | none => rw [hr] at hj; cases hj
    | some w =>
      rw [hr] at hj
      cases hj
      obtain ⟨b, hb, ht⟩ := hpr j w hr
      refine ⟨?_, .inl ?_⟩
      · simp [hb]
      · have e : ts.getD j 0 = b := by rw [List.getD_eq_getElem?_getD, hb]; rfl
        show s.heap.IsTuple (ts.getD j 0) _
        rw [e]
        obtain ⟨o, h1, h2, h3⟩ := ht
        exact ⟨o, h1, h2, h3⟩
  · have hi : (prs.map fun r => (Value.ref r.2.1, r.2.2))[i]? = some (key, v) := hi
    rw [List.getElem?_map] at hi
    cases hr : prs[i]? with
    | none => rw [hr] at hi; cases hi
    | some w =>
      rw [hr] at hi
      cases hi
      exact ⟨w.1, w.2.1, rfl, rfl⟩
  · obtain ⟨o, vs, n, h1, h2⟩ := isk x hx
    exact ⟨o, vs, n, hk _ _ (Nat.ne_of_lt (Heap.lt_size h1)) (by simp) h1, h2⟩
  · have hn : H s.heap.objs.size = none := I.hok.fresh (Nat.le_refl _)
    have kt : KT H (kvT qs) (storedAllH [] prs) := kt_all rel .nil
    obtain ⟨o, es, ep, g1, g2, g3, g4, _, g6⟩ := hd
    have len : (kvT qs).length ≤ sizeLine := by
      have := len_fold qs []
      have e : ts.length = prs.length := hl.symm
      simp only [List.length_nil] at this
      show (qs.foldl _ []).length ≤ sizeLine
      omega
    refine ⟨.ref s.heap.objs.size, _, I.laid (o := .dT (kvT qs)) (fun b o e => hk b o (by simp) e) (Nat.le_refl _) ⟨len, beq_eq_false_iff_ne.mpr (Nat.ne_of_gt I.big), _, kt.keeps fun c ys ec => ?_, o, es, ep, g1, g2, g3, g4, g6⟩, rfl, q _ hn⟩
    rw [upd_ne (ne_of_none ec hn)]
    exact ec

/-! ### over data -/
def pairsK : List D → Option (List (Key × D))
  | [] => some []
  | d :: ds => match d.strip, pairsK ds with
    | .tup [k, v], some r => (kD k).map fun q => (q, v) :: r
    | _, _ => none
def pairsT : List D → Option (List (List Key × D))
  | [] => some []
  | d :: ds => match d.strip, pairsT ds with
    | .tup [k, v], some r => (kTD k).map fun q => (q, v) :: r
    | _, _ => none
def foldK (ps : List (Key × D)) (ks vs : List D) : List D × List D := ps.foldl (fun acc p => putKD acc.1 acc.2 p.1 p.2) (ks, vs)
def foldT (ps : List (List Key × D)) (ks vs : List D) : List D × List D := ps.foldl (fun acc p => putTD acc.1 acc.2 p.1 p.2) (ks, vs)
def gDict (s : S) (d : D) : Option D := (lstD (view s d)).bind fun xs => match pairsK xs with
  | some ps => some (.dct (foldK ps [] []).1 (foldK ps [] []).2)
  | none => match pairsT xs with
    | some ps => if (foldT ps [] []).1.isEmpty = true then none else some (.dct (foldT ps [] []).1 (foldT ps [] []).2)
    | none => none
section
variable {C : Cfg} {K : PySem.W.Frag} {W : Wd} {H : Hp} {s : S}
theorem pairsK_rd : ∀ {xs : List D} {vs : List V} {ps : List (Key × D)}, RDs C K W H xs vs → pairsK xs = some ps → ∃ (as : List Addr) (kvs : List (Key × V)), vs = as.map V.ref ∧ Paired (fun p kv => SqT K H p [kV kv.1, kv.2]) as kvs ∧ kvs.map (·.1) = ps.map (·.1) ∧ RDs C K W H (ps.map (·.2)) (kvs.map (·.2))
  | [], vs, ps, r, h => by
    cases h
    have e : vs = [] := r
    subst e
    exact ⟨[], [], rfl, .nil, rfl, rfl⟩
  | d :: xs, vs, ps, r, h => by
    obtain ⟨v, rs, rfl, h1, h2⟩ := r
    unfold pairsK at h
    split at h
    · rename_i k w r' hd hr
      cases hk : kD k with
      | none => rw [hk] at h; cases h
      | some q =>
        rw [hk] at h
        cases h
        obtain ⟨as, kvs, rfl, p, e1, e2⟩ := pairsK_rd h2 hr
        have z := h1.strip
        rw [hd] at z
        obtain ⟨a, us, rfl, _, l, rr⟩ := z
        obtain ⟨x, y, rfl, r1, r2⟩ := rds2 rr
        refine ⟨a :: as, (q, y) :: kvs, rfl, .cons ?_ p, by simp [e1], ⟨y, _, rfl, r2, e2⟩⟩
        rw [← kD_rd r1 hk]
        exact SqT.of l
    · cases h
theorem pairsT_rd : ∀ {xs : List D} {vs : List V} {ps : List (List Key × D)}, RDs C K W H xs vs → pairsT xs = some ps → ∃ (as : List Addr) (qs : List QT), vs = as.map V.ref ∧ Paired (QAt H) as qs ∧ qs.map (·.1) = ps.map (·.1) ∧ RDs C K W H (ps.map (·.2)) (qs.map fun q => q.2.2)
  | [], vs, ps, r, h => by
    cases h
    have e : vs = [] := r
    subst e
    exact ⟨[], [], rfl, .nil, rfl, rfl⟩
  | d :: xs, vs, ps, r, h => by
    obtain ⟨v, rs, rfl, h1, h2⟩ := r
    unfold pairsT at h
    split at h
    · rename_i k w r' hd hr
      cases hk : kTD k with
      | none => rw [hk] at h; cases h
      | some q =>
        rw [hk] at h
        cases h
        obtain ⟨as, qs, rfl, p, e1, e2⟩ := pairsT_rd h2 hr
        have z := h1.strip
        rw [hd] at z
        obtain ⟨a, us, rfl, _, l, rr⟩ := z
        obtain ⟨x, y, rfl, r1, r2⟩ := rds2 rr
        obtain ⟨b, rfl, hb⟩ := kTD_rd r1 hk
        exact ⟨a :: as, (q, b, y) :: qs, rfl, .cons ⟨l, hb⟩ p, by simp [e1], ⟨y, _, rfl, r2, e2⟩⟩
    · cases h
theorem foldK_rd : ∀ {ps : List (Key × D)} {kvs acc : List (Key × V)} {va : List D}, kvs.map (·.1) = ps.map (·.1) → RDs C K W H (ps.map (·.2)) (kvs.map (·.2)) → RDs C K W H va (acc.map (·.2)) →
    (foldK ps (acc.map fun p => keyD p.1) va).1 = (mergeK acc kvs).map (fun p => keyD p.1) ∧ RDs C K W H (foldK ps (acc.map fun p => keyD p.1) va).2 ((mergeK acc kvs).map (·.2))
  | [], kvs, acc, va, h, r, ra => by
    have e : kvs = [] := by simpa using h
    subst e
    exact ⟨rfl, ra⟩
  | p :: ps, [], acc, va, h, r, ra => by simp at h
  | p :: ps, kv :: kvs, acc, va, h, r, ra => by
    obtain ⟨v, rs, e, r1, r2⟩ := r
    have e : kv.2 :: kvs.map (·.2) = v :: rs := e
    injection e with e1 e2
    have h : kv.1 :: kvs.map (·.1) = p.1 :: ps.map (·.1) := h
    injection h with h1 h2
    obtain ⟨z1, z2⟩ := putKD_rd (q := p.1) (kvs := acc) (v := kv.2) (by rw [e1]; exact r1) ra
    have ih := foldK_rd (ps := ps) (kvs := kvs) (acc := putK acc p.1 kv.2) (va := (putKD (acc.map fun p => keyD p.1) va p.1 p.2).2) h2 (by rw [e2]; exact r2) z2
    rw [← z1] at ih
    have em : mergeK acc (kv :: kvs) = mergeK (putK acc p.1 kv.2) kvs := by
      rw [← h1]
      rfl
    rw [em]
    exact ih
theorem foldT_rd : ∀ {ps : List (List Key × D)} {qs : List QT} {acc : List (List Key × V)} {va : List D}, qs.map (·.1) = ps.map (·.1) → RDs C K W H (ps.map (·.2)) (qs.map fun q => q.2.2) → RDs C K W H va (acc.map (·.2)) →
    (foldT ps (acc.map fun p => tupD p.1) va).1 = (qs.foldl (fun acc q => putK acc q.1 q.2.2) acc).map (fun p => tupD p.1) ∧ RDs C K W H (foldT ps (acc.map fun p => tupD p.1) va).2 ((qs.foldl (fun acc q => putK acc q.1 q.2.2) acc).map (·.2))
  | [], kvs, acc, va, h, r, ra => by
    have e : kvs = [] := by simpa using h
    subst e
    exact ⟨rfl, ra⟩
  | p :: ps, [], acc, va, h, r, ra => by simp at h
  | p :: ps, kv :: kvs, acc, va, h, r, ra => by
    obtain ⟨v, rs, e, r1, r2⟩ := r
    have e : kv.2.2 :: (kvs.map fun q => q.2.2) = v :: rs := e
    injection e with e1 e2
    have h : kv.1 :: kvs.map (·.1) = p.1 :: ps.map (·.1) := h
    injection h with h1 h2
    obtain ⟨z1, z2⟩ := putTD_rd (q := p.1) (kvs := acc) (v := kv.2.2) (by rw [e1]; exact r1) ra
    have ih := foldT_rd (ps := ps) (qs := kvs) (acc := putK acc p.1 kv.2.2) (va := (putTD (acc.map fun p => tupD p.1) va p.1 p.2).2) h2 (by rw [e2]; exact r2) z2
    rw [← z1] at ih
    have em : (kv :: kvs).foldl (fun acc q => putK acc q.1 q.2.2) acc = kvs.foldl (fun acc q => putK acc q.1 q.2.2) (putK acc p.1 kv.2.2) := by
      rw [← h1]
      rfl
    rw [em]
    exact ih
end
section
variable {C : Cfg} {X : Cx}
theorem c_dict (hc : X.calm = true) (hu : X.A.units + 8 < cLine) : CallR X (.type "dict") (rc C X.K (f1 gDict)) := CallR.r1 ((call_dictP hc).or (cr_dictT hc hu)) fun W s d z v H Q t r h q => by
  have sd := see_of t r
  unfold gDict at h
  cases hs : lstD (view s d) with
  | none => rw [hs] at h; cases h
  | some xs =>
    rw [hs] at h
    obtain ⟨a, vs, rfl, l, rs⟩ := lst_of sd hs
    have h : (match pairsK xs with
      | some ps => some (D.dct (foldK ps [] []).1 (foldK ps [] []).2)
      | none => match pairsT xs with
        | some ps => if (foldT ps [] []).1.isEmpty = true then none else some (D.dct (foldT ps [] []).1 (foldT ps [] []).2)
        | none => none) = some z := h
    split at h
    · rename_i ps hp
      cases h
      obtain ⟨as, kvs, rfl, pr, e1, e2⟩ := pairsK_rd rs hp
      refine .inl ⟨a, as, kvs, rfl, l, pr, fun p hp => ?_⟩
      have lw : Le W H s (W.add p) (L2.upd H p (.dK (mergeK [] kvs))) s := Le.laid t hp
      have t2 := t.laid hp (o := .dK (mergeK [] kvs)) (fun _ z => nomatch z)
      obtain ⟨k1, k2⟩ := foldK_rd (C := C) (K := X.K) (W := W) (H := H) (acc := []) (va := []) e1 e2 rfl
      exact q _ _ _ lw t2 ⟨p, _, rfl, .inr rfl, .inl ⟨mergeK [] kvs, upd_same, k1, rfl⟩, RDs.mono lw t _ _ k2⟩
    · split at h
      · rename_i ps hp
        by_cases hz : (foldT ps [] []).1.isEmpty = true
        · rw [if_pos hz] at h
          cases h
        rw [if_neg hz] at h
        cases h
        obtain ⟨as, qs, rfl, pr, e1, e2⟩ := pairsT_rd rs hp
        refine .inr ⟨a, as, qs, rfl, l, pr, fun p hp => ?_⟩
        have lw : Le W H s (W.add p) (L2.upd H p (.dT (kvT qs))) s := Le.laid t hp
        have t2 := t.laid hp (o := .dT (kvT qs)) (fun _ z => nomatch z)
        obtain ⟨k1, k2⟩ := foldT_rd (C := C) (K := X.K) (W := W) (H := H) (acc := []) (va := []) e1 e2 rfl
        exact q _ _ _ lw t2 ⟨p, _, rfl, .inr rfl, .inr ⟨kvT qs, upd_same, k1, rfl, by intro z; refine hz ?_; have k1' : (foldT ps [] []).1 = (kvT qs).map fun p => tupD p.1 := k1; rw [k1', z]; rfl⟩, RDs.mono lw t _ _ k2⟩
      · cases h
end
end DV
end
section
set_option Elab.async false
set_option linter.all false
set_option maxRecDepth 100000
set_option maxHeartbeats 2000000
/-! DN: the module's own errors: an __init__ that says super().__init__('..') and keeps what it got. -/
namespace DV
open PySem PySem.Spec PyProof.Rows L2 PySem.W

/-- what the written part says of such an __init__ of the class at C -/
structure SupI (P : Program) (K : PySem.W.Frag) (C f cc cda : Addr) (fd : FuncData) : Prop where
  fn : ∃ (oc : Value) (od : Option Addr) (osl : Array (Option Value)), K.lookup f = some ⟨oc, od, .func fd, osl⟩
  code : ∃ (oc : Value) (od : Option Addr) (sl : Array (Option Value)) (vs : Array Value) (file : Str) (t : Tok), K.lookup cda = some ⟨oc, od, .fields vs, sl⟩ ∧ vs[2]? = some (.str file t) ∧ ((P.main.file : Str) == file) = true
  cell : ∃ (oc : Value) (od : Option Addr) (sl : Array (Option Value)), K.lookup cc = some ⟨oc, od, .cell (some (.ref C)), sl⟩
  cls : ∃ cd, clsIn K C = some cd
  self : mroIn K C (.ref C) = some true
  sup : ks_superIn K C C "__init__" = some (some (.builtin "ValueError.__init__"))
  isV : subIn K (.ref C) (.type "ValueError") = some true
  opq : nsIn K cStatics "thirdparty.any" = some none
  top : (P.main.scope.names.lookup ("super" : Str)).isSome = false
  exc : OexC K C
/-- the object that the call of super makes, and the bound __init__ -/
abbrev supO (C a : Addr) : Obj := { cls := .type "super", dict := none, data := .fields #[.ref C, .ref a, .ref C], slots := #[] }
section
variable {X : Cx} {pins : List (Addr × Obj)} {σ : L2.St} {H : Hp} {s : Shared}
/-- the bound __init__ called: only the exception's args change -/
theorem call_mw {a C u : Addr} {rest : List Value} {A : Around} {Er : Value → Shared → Prop} {Q : Value → Shared → Prop} (T : OexC X.K C) (I : Inv X pins σ H s) (e : H a = some (exo a C none)) (hu : s.heap.get? u = some (kxs_mw "ValueError.__init__" a)) (hl : rest.length ≤ sizeLine)
    (go : ∀ s', Inv X pins σ H s' → Q .none s') : wpAny (model X.prog X.w) A (call (.ref u) rest) Q Er s := by
  obtain ⟨nm, q, N, bs, bm, sn, sub, ab, col, dd, k0, k1, k2, k3, k5, hC, hbm⟩ := T.cls
  obtain ⟨t1, ho⟩ := exo_at I.hok e
  obtain ⟨hp, g, d, t, os⟩ := s
  have fb := F.excBase_ValueError
  refine wpAny_call (codeAny_of_tree ?_)
  show wpAny _ A.in1 (callAny (.ref u) ⟨rest, []⟩) _ _ _
  simp only [callAny]
  refine wpAny_bind (wpAny_load hu ?_)
  simp only [kxs_mw, show (Value.type "method-wrapper" == Value.type "method" || Value.type "method-wrapper" == Value.type "builtin_function_or_method" || Value.type "method-wrapper" == Value.type "method-wrapper") = true by decide, if_true]
  refine KFB.if_so (by decide) ?_
  refine wpAny_bind (check_bound_init fb.toExcCallFacts (I.kIn _ _ hC) ho rfl ?_)
  refine wpAny_bind (wpAny_pure (wpAny_pure ⟨plainId_quiet fb.init.plain _, codeAny_builtin fb.initEntry ?_⟩))
  refine exc_init_tree (cls := .ref C) (t0 := t1) (dv := none) (c2 := .none) (c3 := .none) (b4 := .bool false) ho hl fun h' k hx _ => ?_
  have J := I.write (t' := t) (x := a) (e := a) (o := exo a C none) (by rw [e]; exact trivial) (.inl rfl) k ⟨_, hx⟩ (exo_ok hx)
  have same : L2.upd H a (exo a C none) = H := by
    funext b
    by_cases hb : b = a
    · rw [hb, upd_same, e]
    · rw [upd_ne hb]
  rw [same] at J
  exact go _ J
/-- super().__init__('..') -/
theorem super_step {body : List Stmt} {a C f cc cda : Addr} {fd : FuncData} {ar : Arg} {m : Str} {j : Nat} {p0 p1 ap p3 p4 p5 : Pos} {Er : Value → Shared → Prop} {Q : Flow → Shared → Prop} (S : SupI X.prog X.K C f cc cda fd) (I : Inv X pins σ H s) (e : H a = some (exo a C none))
    (hks : X.env.kindOf "super" = some .globalImplicit) (hkc : X.env.kindOf "__class__" = some .free) (hka : X.env.kindOf ar.arg = some .local) (hfu : X.env.func = some f) (hco : X.env.code = .ref cda) (hcl : X.env.cells.lookup ("__class__" : Str) = some cc)
    (hp : (fd.params.posonlyargs ++ fd.params.args).head? = some ar) (hN : X.N[0]? = some ar.arg) (h0 : σ[0]? = some (some (.ref a))) (hsup : X.mg "super" = none) (hi : interactive X.env = false) {pl : Sem Bool}
    (he : eval (.Call (.Attribute (.Call (.Name "super" p0) [] [] p1) "__init__" ap) [.Constant (.str m) j p3] [] p4) X.env = (do
      let ov ← attributeBase (.Call (.Name "super" p0) [] [] p1) "__init__" X.env (eval (.Call (.Name "super" p0) [] [] p1) X.env)
      standAt ap.atName
      let (f, first) ← holding [ov] (getMethod ov "__init__" pl)
      callWith p4 f first (backTo p4 (starEach [.Constant (.str m) j p3] X.env)) []))
    (go : ∀ s', Inv X pins σ H s' → Q .next s') :
    _root_.PySem.wpAt (model X.prog X.w) X.A (.func body X.env) (exec (.Expr (.Call (.Attribute (.Call (.Name "super" p0) [] [] p1) "__init__" ap) [.Constant (.str m) j p3] [] p4) p5) X.env) Q Er s := by
  obtain ⟨oc, od, osl, lf⟩ := S.fn
  obtain ⟨ccl, cdd, csl, vs, file, tf, lc, hvs, hfile⟩ := S.code
  obtain ⟨xcl, xcd, xsl, lx⟩ := S.cell
  obtain ⟨cd, hcd⟩ := S.cls
  have KX := I.kIn
  obtain ⟨oD, hD1, hD2⟩ : ∃ oD, s.heap.get? C = some oD ∧ oD.data = .cls cd := by
    have hcd2 := hcd
    unfold clsIn at hcd2
    split at hcd2
    · rename_i ho
      cases hcd2
      exact ⟨_, KX _ _ ho, rfl⟩
    · cases hcd2
  obtain ⟨t1, ho⟩ := exo_at I.hok e
  refine ks_wpAt_Expr_any ?h hi ?hs
  case hs => rfl
  refine ks_wpAt_MethodCall (pl := pl) ?_ he
  refine ks_wpAt_super_base hks hkc (by decide) hfu (KX _ _ lf) rfl hp hco (KX _ _ lc) rfl hvs hfile S.top ?_
  obtain ⟨mb, b1, b2⟩ := I.mod.blt
  refine ks_loadName_global I.ok.kind hks (Calls.loadGlobal_builtin (by rw [I.ok.glob]; exact I.mod.glob.keeps I.bk) hsup (by rw [I.ok.blt]; exact b1.keeps I.bk) ((b2 "super" (by decide)).trans (show bootBuiltins "super" = some (.type "super") by decide +kernel)) ⟨rfl, ?_⟩)
  refine wpAny_loadName_free I.ok.kind hkc hcl ⟨_, KX _ _ lx, rfl⟩ ?_
  obtain ⟨mm, hn, hloc⟩ := I.loc
  obtain ⟨u, ru, lk⟩ := hloc 0 ar.arg (.ref a) hN h0 (.inl hka)
  have hu : mm ar.arg = some (.ref a) := by
    rcases lk with ⟨_, z⟩ | ⟨z, _⟩
    · rw [z, show u = Value.ref a from ru]
    · have z : X.env.kindOf ar.arg = some .cell ∨ X.env.kindOf ar.arg = some .free := z
      rw [hka] at z
      rcases z with z | z <;> cases z
  refine wpAny_loadName_local I.ok.kind hka hn hu ?_
  obtain ⟨hp0, g, d, t, os⟩ := s
  refine ks_wpAny_isType_cls hD1 hD2 ⟨rfl, ?_⟩
  refine ks_wpAny_call_super hD1 hD2 ho rfl (fun c z => by cases z) (looks_mroIn KX S.self) fun h1 hs1 k1 => ?_
  have I1 : Inv X pins σ H ⟨h1, g, d, t, os⟩ := I.kept (t' := t) k1
  have ho1 := k1 _ _ ho
  have IA : InstAt h1 a { cls := .ref C, dict := none, data := .fields #[.ref t1, .none, .none, .none, .bool false, .none] } C none := ⟨ho1, rfl, rfl, trivial⟩
  have neC : a ≠ C := fun z => by
    rw [z] at ho
    rw [ho] at hD1
    cases hD1
    cases hD2
  have supf := S.sup
  unfold ks_superIn at supf
  rw [hcd] at supf
  refine kxs_getMethod kxs_ValueError hs1 (looks_opaque (I1.kIn) S.opq) (l₀ := cd.mro) (fun A Q E s k q => wpAny_bind ((looks_clsIn I1.kIn hcd) A _ E s k (wpAny_pure q))) rfl I1.kIn supf (IA.type.andThen (looks_subIn I1.kIn S.isV)) neC (by decide) ?_
  have I2 : Inv X pins σ H ⟨h1.push (kxs_mw "ValueError.__init__" a), g, d, t + 1, os⟩ := I1.kept fun b o z => Heap.get?_push_of_some _ z
  have hw : (h1.push (kxs_mw "ValueError.__init__" a)).get? h1.objs.size = some (kxs_mw "ValueError.__init__" a) := Heap.get?_push_size _ rfl
  have fresh : H h1.objs.size = none := I1.hok.fresh (Nat.le_refl _)
  refine kxs_callWith (i := "ValueError.__init__") (x := a) (by rfl) (Calls.evalArgs_plain ?_)
  refine Calls.spliced_cons (Calls.Constant_str (k := j) (pos := p3) ?_)
  refine Calls.spliced_nil ⟨hw, ?_⟩
  have I3 : Inv X pins σ H ⟨h1.push (kxs_mw "ValueError.__init__" a), g, d, t + 1 + 1, os⟩ := I2.tok _
  exact call_mw S.exc I3 e hw (by rw [sizeLine_eq]; simp) fun s' J => go s' J
end

/-- the promise of an __init__ that keeps one argument: self.f = y -/
def spI (C : Addr) (f : Str) : Sp := fun vs H Q _ => ∃ a y, vs = [.ref a, y] ∧ H a = some (exo a C none) ∧ ∀ dx, H dx = none → dx ≠ a → Q .non (L2.upd (L2.upd H dx (exd dx [(f, y)])) a (exo a C (some dx)))
/-- the words of such an __init__ -/
def initBody (m f p : Str) (j : Nat) (sf : Str) (q : Nat → Pos) : List Stmt :=
  [.Expr (.Call (.Attribute (.Call (.Name "super" (q 0)) [] [] (q 1)) "__init__" (q 2)) [.Constant (.str m) j (q 3)] [] (q 4)) (q 5), .Assign [.Attribute (.Name sf (q 6)) f (q 7)] (.Name p (q 8)) (q 9)]
section
variable {P : Program} {w : World} {K : PySem.W.Frag} {mg : Str → Option Value} {base : Heap}
open NdefX in
theorem fn_init {k : Nat} {C f cc cda : Addr} {name qual m fld p sf : Str} {params : Arguments} {scope : Scope} {dV kV doc pm ct : Value} {an : Option Addr} {j : Nat} {q : Nat → Pos} {r0 r1 : Arg} {pl : Sem Bool}
    (S : SupI P K C f cc cda (fnX name qual params (initBody m fld p j sf q) scope [("__class__", cc)] dV kV doc pm an (.ref cda) ct)) (hcd : codeIn K (.ref cda) qual = true) (hno : findIn K (.ref C) fld = some none)
    (NS : NScope [sf, p, "__class__"] [sf, p] ["__class__"] scope) (hks : scope.names.lookup ("super" : Str) = some .globalImplicit) (hsup : mg "super" = none) (hp : (params.posonlyargs ++ params.args).head? = some r0) (h0 : r0.arg = sf)
    (he : ∀ (L : Addr), eval (.Call (.Attribute (.Call (.Name "super" (q 0)) [] [] (q 1)) "__init__" (q 2)) [.Constant (.str m) j (q 3)] [] (q 4)) (envX qual scope L f (.ref cda) [("__class__", cc)]) = (do
      let ov ← attributeBase (.Call (.Name "super" (q 0)) [] [] (q 1)) "__init__" (envX qual scope L f (.ref cda) [("__class__", cc)]) (eval (.Call (.Name "super" (q 0)) [] [] (q 1)) (envX qual scope L f (.ref cda) [("__class__", cc)]))
      standAt (q 2).atName
      let (g0, first) ← holding [ov] (getMethod ov "__init__" pl)
      callWith (q 4) g0 first (backTo (q 4) (starEach [.Constant (.str m) j (q 3)] (envX qual scope L f (.ref cda) [("__class__", cc)]))) []))
    (dsf : (sf == ("__debug__" : Str)) = false := by decide) (csf : (sf == ("__classdict__" : Str)) = false := by decide) (dp : (p == ("__debug__" : Str)) = false := by decide) (cp : (p == ("__classdict__" : Str)) = false := by decide) :
    FnOk P w K mg base (L2.CX P w) (k + 1) f (fnX name qual params (initBody m fld p j sf q) scope [("__class__", cc)] dV kV doc pm an (.ref cda) ct) [sf, p] (spI C fld) := by
  refine ⟨fun vs H Q E ⟨a, y, e, _⟩ => by rw [e]; rfl, fun A outer s H args us vs Q E hr e0 hb r hsp => ?_⟩
  obtain ⟨a, y, rfl, ea, hq⟩ := hsp
  have KX : K.In s.heap := e0.mod.kin.keeps fun b o e => (e0.bs b o e).1
  have lim : s.heap.NoLimit := e0.mod.nolimit.keeps fun b o e => (e0.bs b o e).1
  obtain ⟨oc, od, osl, lf⟩ := S.fn
  obtain ⟨xcl, xcd, xsl, lx⟩ := S.cell
  let F : NF := ⟨name, qual, params, initBody m fld p j sf q, scope, [("__class__", cc)], cda⟩
  have cells : CellsAt F.cl ["__class__"] [none] s.heap H := by
    have look : ∀ {z : Str} {c : Addr}, ([(("__class__" : Str), cc)] : List (Str × Addr)).lookup z = some c → z = "__class__" ∧ c = cc := fun {z c} h => by
      have := PySem.mem_of_lookup h
      simp at this
      exact this
    obtain ⟨hb1, hb2⟩ := e0.bs cc _ (e0.mod.kin _ _ lx)
    refine ⟨rfl, fun z c h => ?_, fun x z c h1 h2 => by rw [(look h1).1, (look h2).1], fun i z h => ?_⟩
    · obtain ⟨_, rfl⟩ := look h
      exact ⟨hb2, _, _, hb1, rfl⟩
    · cases i with
      | zero =>
        cases h
        exact ⟨cc, rfl, fun v h => by cases h⟩
      | succ i => cases i <;> cases h
  refine codeAny_call_function hr.depth (KX _ _ lf) rfl NS.co NS.gen rfl (codeRec_of KX hcd) (hb _ _ _ _ ?_)
  refine wpAny_newFunctionEnv NS.nocell (fun ⟨n, _⟩ hy => NS.par n (List.of_mem_zip hy).1) (fun h₁ hns hsb => ⟨lim.fresh _ hsb, ?_⟩) NS.kind
  show codeAny _ _ (.func (initBody m fld p j sf q) (envF F f s.heap.objs.size)) _ _
  refine ks_codeAny_funcAt ?_
  have kp : ∀ b o, s.heap.get? b = some o → h₁.get? b = some o := fun b o e => hsb.extBut b o (Nat.ne_of_lt (Heap.lt_size e)) (Heap.get?_push_of_some _ e)
  have I : Inv (ncx (L2.CX P w) P w K mg base [sf, p, "__class__"] F f A outer s H E) [] (startF [sf, p, "__class__"] [.ref a, y] [none]) H { s with heap := h₁, toks := s.toks + ([sf, p].zip us).length } := inv_startN NS hr.hd e0 rfl r cells hns kp
  have kself : scope.names.lookup sf = some .local := NS.par sf (by simp)
  have kp2 : scope.names.lookup p = some .local := NS.par p (by simp)
  have kcls : scope.names.lookup ("__class__" : Str) = some .free := NS.frk _ (by simp)
  have hint : interactive (ncx (L2.CX P w) P w K mg base [sf, p, "__class__"] F f A outer s H E).env = false := by
    show (scope.kind == .module && _) = false
    rw [NS.kind]
    rfl
  refine ks_wpAt_mono (Q := fun fl s' => SP (ncx (L2.CX P w) P w K mg base [sf, p, "__class__"] F f A outer s H E) [] { nx := fun _ H' => Q .non H', rt := Q } fl s') (ks_wpAt_execs_cons (super_step (X := ncx (L2.CX P w) P w K mg base [sf, p, "__class__"] F f A outer s H E) S I ea hks kcls (by rw [h0]; exact kself) rfl rfl rfl hp (by rw [h0]; rfl) rfl hsup hint (he _) fun s' J => wpAt_of_wpAny ?_)) (fun fl s' hs => ?_) fun e s' hs => hs
  · have p1 : PE (ncx (L2.CX P w) P w K mg base [sf, p, "__class__"] F f A outer s H E) (.Name sf (q 6)) (tVar 0) := pe_var rfl (.inl kself) dsf csf
    have p2 : PE (ncx (L2.CX P w) P w K mg base [sf, p, "__class__"] F f A outer s H E) (.Name p (q 8)) (tVar 1) := pe_var rfl (.inl kp2) dp cp
    refine (pss_one (ps_ost p1 p2)).run [] s' _ H _ J ?_
    exact ⟨y, rfl, .ref a, rfl, a, C, rfl, S.exc, hno, .inl ⟨ea, fun dx h1 h2 => hq dx h1 h2⟩⟩
  · have fin : ∀ {σ' : L2.St} {H' : Hp} {v : V} {u : Value}, Inv (ncx (L2.CX P w) P w K mg base [sf, p, "__class__"] F f A outer s H E) [] σ' H' s' → L2.RelV v u → Q v H' → CE outer P w H s Q u s' :=
      fun {σ' H' v u} J rv q => ⟨v, H', J.os, J.bare, J.base, J.hok, rv, q⟩
    cases fl with
    | ret u =>
      obtain ⟨v, σ', H', J, rv, q⟩ := hs
      exact fin J rv q
    | next =>
      obtain ⟨σ', H', J, q⟩ := hs
      exact fin (v := V.non) (u := Value.none) J rfl q
    | brk =>
      obtain ⟨_, _, _, q⟩ := hs
      exact False.elim q
    | cont =>
      obtain ⟨_, _, _, q⟩ := hs
      exact False.elim q
end

/-! ### raise C(e) -/
def sRaise (c : Nat) (a : Ex) : Sx := fun e s => (a e s).fl e fun d s => .exc c [d] e s
section
variable {C : Cfg} {X : Cx} {Wx : WX} {e : Expr} {fe : Ex} {pos pos' p : Pos} {x : Str} {k c : Nat} {fI : Addr} {fd : FuncData} {ps : List Str} {fld : Str}
theorem ds_raise (hc : X.calm = true) (tk : Takes X Wx) (T : OexC X.K (C.ca c)) (iC : PySem.W.findIn X.K (.ref (C.ca c)) "__init__" = some (some (.ref fI))) (tI : PySem.W.typeIn X.K (.ref fI) = some (.type "function")) (hcf : C.cf c = [fld])
    (F1 : FnOk X.prog X.w X.K X.mg X.base (L2.CX X.prog X.w) k fI fd ps (spI (C.ca c) fld)) (hr : Room (k + 1) X.A) (hb : Binds X.K fd ps []) (hg : Gl X x) (hm : X.mg x = some (.ref (C.ca c))) (ha : DE C X Wx e fe)
    (hdb : (x == ("__debug__" : Str)) = false := by decide) (he : starEach [e] X.env = (false, eval e X.env) :: starEach [] X.env := by rfl) (hpl : (backTo pos (starEach [] X.env)).any (·.1) = false := by rfl) :
    DS C X Wx (.Raise (some (.Call (.Name x p) [e] [] pos)) none pos') (sRaise c fe) :=
  PS.imp (ps_raise hc tk (pmk_oex (dvs := []) T iC tI F1 hr hb .nil (passes_call (W := fun _ _ _ _ => False) takes_none5 fun _ _ _ _ h => h) hg hm (pa_cons ha pa_nil he) hdb he hpl)) fun En σ H h => by
    obtain ⟨W, env, s, e, q⟩ := h
    refine ⟨W, env, s, e, Res.fl q fun W1 H1 s1 d y l1 e1 r1 q1 => ?_⟩
    refine ⟨by simp, fun a ha => ⟨a, y, rfl, upd_same, fun dx h1 h2 => ⟨rfl, dx, [(fld, y)], upd_same, ?_, ?_, ?_⟩⟩⟩
    · rw [upd_ne h2, upd_same]
    · rw [upd_ne h2] at h1
      exact h1
    · rw [upd_ne h2] at h1
      have eH : L2.upd (del (L2.upd (L2.upd (L2.upd H1 a (exo a (C.ca c) none)) dx (exd dx [(fld, y)])) a (exo a (C.ca c) (some dx))) a) dx (.xd [(fld, y)]) = L2.upd H1 dx (.xd [(fld, y)]) := by
        funext b
        by_cases hb : b = dx
        · rw [hb, upd_same, upd_same]
        · rw [upd_ne hb, upd_ne hb]
          by_cases hb2 : b = a
          · rw [hb2, del_same, ha]
          · rw [del_ne hb2, upd_ne hb2, upd_ne hb, upd_ne hb2]
      rw [eH]
      have l2 : Le W1 H1 s1 (W1.add dx) (L2.upd H1 dx (.xd [(fld, y)])) s1 := Le.laid e1.st h1
      have t2 := e1.st.laid h1 (o := .xd [(fld, y)]) (fun _ z => nomatch z)
      refine q1 (W1.add dx) σ _ dx [y] l2 (e1.later l2 t2) (.inr rfl) ?_ (by rw [hcf]; rfl) ⟨y, [], rfl, r1.mono l2 e1.st, rfl⟩
      rw [upd_same, hcf]
      rfl
end
end DV
end
section
set_option Elab.async false
set_option linter.all false
set_option maxRecDepth 100000
/-! DY: calls by names; instances: made, their fields, their methods. -/
namespace DV
open PySem PySem.Spec PyProof.Rows L2

/-- what is wanted of an exception does not look at the frame -/
def Flat (Wx : WX) : Prop := ∀ c d σ σ' H, Wx c d σ H → Wx c d σ' H
theorem flat0 : Flat W0 := fun _ _ _ _ _ h => h
theorem flatE {E : XK} : Flat (fun c d _ H => E c d H) := fun _ _ _ _ _ h => h
theorem passF {X : Cx} {Wx : WX} (tk : Takes X Wx) (fl : Flat Wx) (σ : L2.St) : Passes (L2.CX X.prog X.w) X (WE Wx σ) := passes_call tk fun c d σ' H h => fl c d σ σ' H h

/-! ### arguments by name -/
def kwG (perm : List Nat) {α : Type} (us ws : List α) : List α := perm.filterMap fun i => (us ++ ws)[i]?
theorem kwG_rel {perm : List Nat} {vs : List V} {us : List Value} {zs : List V} {ws : List Value} (r : Vals vs us) (rz : Vals zs ws) : Vals (kwG perm vs zs) (kwG perm us ws) := by
  have ra : Vals (vs ++ zs) (us ++ ws) := Vals.append r rz
  unfold kwG
  induction perm with
  | nil => exact .nil
  | cons i perm ih =>
    rw [List.filterMap_cons, List.filterMap_cons]
    cases h : (vs ++ zs)[i]? with
    | some v =>
      obtain ⟨u, hu, ru⟩ := ra.get h
      rw [hu]
      exact .cons ru ih
    | none =>
      have hl := Paired.length ra
      have : (us ++ ws)[i]? = none := by
        rw [List.getElem?_eq_none_iff] at h ⊢
        omega
      rw [this]
      exact ih
theorem kwG_rds {C : Cfg} {K : PySem.W.Frag} {W : Wd} {H : Hp} {perm : List Nat} {ds es : List D} {vs zs : List V} (r : RDs C K W H ds vs) (rz : RDs C K W H es zs) : RDs C K W H (kwG perm ds es) (kwG perm vs zs) := by
  have ra := r.append rz
  unfold kwG
  induction perm with
  | nil => rfl
  | cons i perm ih =>
    rw [List.filterMap_cons, List.filterMap_cons]
    cases h : (ds ++ es)[i]? with
    | some d =>
      obtain ⟨v, hv, rv⟩ := ra.get h
      rw [hv]
      exact ⟨v, _, rfl, rv, ih⟩
    | none =>
      have hl := ra.length
      have : (vs ++ zs)[i]? = none := by
        rw [List.getElem?_eq_none_iff] at h ⊢
        omega
      rw [this]
      exact ih
theorem kbn_of {K : PySem.W.Frag} {x qual : Str} {st : Stmt} {f : Addr} {fd : FuncData} {ps ks : List Str} {n : Nat} {perm : List Nat} (F : Fun K x qual st f fd)
    (h : ∀ (kV doc pm : Value) (an : Option Addr) (cdv ct : Value) (us ws : List Value), us.length = n → ws.length = ks.length → bindArgs (PySem.W.fnOf x qual (defArgs st) (defBody st) (defScope st) .none kV doc pm an cdv ct) ⟨us, ks.zip ws⟩ = pure (ps.zip (kwG perm us ws))) :
    KBn K fd ps n ks (kwG perm) (kwG perm) := by
  obtain ⟨oc, od, kV, doc, pm, an, cdv, ct, osl, rfl, lk, hcd⟩ := F.ex
  exact ⟨fun s us ws _ l1 l2 => BindsTo.of_eq (h kV doc pm an cdv ct us ws l1 l2), kwG_rel⟩
theorem PK.imp {X : Cx} {e : List Keyword} {t t' : TA} (h : PK X e t) (f : ∀ σ H Q, t' σ H Q → t σ H Q) : PK X e t' := ⟨fun pos pins s σ H Q I q => h.run pos pins s σ H Q I (f _ _ _ q)⟩
def DKw (C : Cfg) (X : Cx) (Wx : WX) (es : List Keyword) (f : Ax) : Prop := PK X es (tAx C X.K Wx f)
def xCallK (n m : Nat) (perm : List Nat) (g : S → List D → Out D) (a k : Ax) : Ex := fun e s => (a e s).bind fun xs s => (k e s).bind fun zs s => if xs.length = n ∧ zs.length = m then g s (kwG perm xs zs) else .stuck
section
variable {C : Cfg} {X : Cx} {Wx : WX} {e : Expr} {es : List Expr} {kws : List Keyword} {fe : Ex} {fa fk : Ax} {pos p kpos : Pos} {x : Str} {k n : Nat} {f : Addr} {fd : FuncData} {ps ks : List Str} {F : S → List D → Out D} {perm : List Nat} {nm : Option Str}
theorem dk_nil : DKw C X Wx [] aNil := PK.imp pk_nil fun σ H Q h => by
  obtain ⟨W, env, s, e, q⟩ := h
  exact Res.here (b := ([] : List V)) q e rfl
theorem dk_cons (ha : DE C X Wx e fe) (hr : DKw C X Wx kws fk) : DKw C X Wx (⟨nm, e, kpos⟩ :: kws) (aCons fe fk) := PK.imp (pk_cons ha hr) fun σ H Q h => by
  obtain ⟨W, env, s, e, q⟩ := h
  refine ⟨W, env, s, e, Res.step q fun W1 H1 s1 d x l1 e1 h1 q1 => ⟨W1, env, s1, e1, Res.step q1 fun W2 H2 s2 ds xs l2 e2 h2 q2 => ?_⟩⟩
  exact Res.here (b := x :: xs) q2 e2 ⟨x, xs, rfl, h1.mono l2 e1.st, h2⟩
/-- a def's reading of data, where the exception's wish is Wx's -/
theorem sp_of {K : PySem.W.Frag} {σ : L2.St} {env : Env} {W : Wd} {H : Hp} {s : S} {ds : List D} {vs : List V} {Q : VK} (e : StE C K W H σ env s) (r : RDs C K W H ds vs) (q : Res C K (fun W H => RD C K W H) Wx σ env W H s (F s ds) Q) : spD C K F vs H Q (WE Wx σ) := by
  refine ⟨W, s, ds, e.st, r, ?_⟩
  revert q
  cases F s ds with
  | ok d s2 => exact fun q3 W2 H2 v l2 t2 r2 => q3 W2 H2 v l2 (e.later l2 t2) r2
  | exc c vs s2 => exact fun q3 W2 H2 dd ws l2 t2 f2 g2 n2 r2 => q3 W2 H2 dd ws l2 (e.later l2 t2) f2 g2 n2 r2
  | stuck => exact fun q3 => q3
/-- f(e, .., k = v, ..) -/
theorem de_callK (G : FnOk X.prog X.w X.K X.mg X.base (L2.CX X.prog X.w) k f fd ps (spD C X.K F)) (hr : Room k X.A) (hg : Gl X x) (hm : X.mg x = some (.ref f)) (hk : PySem.W.keepIn X.K (.ref f) = true) (hb : KBn X.K fd ps n ks (kwG perm) (kwG perm)) (tk : Takes X Wx) (fl : Flat Wx)
    (ha : DA C X Wx (e :: es) fa) (hkw : DKw C X Wx kws fk) (hall : (backToKw pos (keywordEach kws X.env)).all (·.1.isSome) = true := by rfl) (hks : (backToKw pos (keywordEach kws X.env)).filterMap (·.1) = ks := by rfl)
    (hdb : (x == ("__debug__" : Str)) = false := by decide) (he : starEach (e :: es) X.env = (false, eval e X.env) :: starEach es X.env := by rfl)
    (hpl : ((backTo pos (starEach (e :: es) X.env)).any (·.1) || (backToKw pos (keywordEach kws X.env)).any (·.1.isNone)) = false := by rfl) :
    DE C X Wx (.Call (.Name x p) (e :: es) kws pos) (xCallK n ks.length perm F fa fk) := ⟨fun pins s σ H Q I h => by
  refine (pe_callN (E := WE Wx σ) G hr hg hm hk hb (passF tk fl σ) ha hkw hall hks hdb he hpl).run pins s σ H Q I ?_
  obtain ⟨W, env, s, e, q⟩ := h
  refine ⟨W, env, s, e, Res.step q fun W1 H1 s1 ds vs l1 e1 r1 q1 => ⟨W1, env, s1, e1, Res.step q1 fun W2 H2 s2 es zs l2 e2 r2 q2 => ?_⟩⟩
  by_cases hl : ds.length = n ∧ es.length = ks.length
  · rw [if_pos hl] at q2
    have r1 := r1.mono l2 e1.st
    exact ⟨r1.length.symm.trans hl.1, r2.length.symm.trans hl.2, sp_of e2 (kwG_rds r1 r2) q2⟩
  · rw [if_neg hl] at q2
    exact q2.elim⟩
/-- f(k = v, ..) -/
theorem de_callK0 (G : FnOk X.prog X.w X.K X.mg X.base (L2.CX X.prog X.w) k f fd ps (spD C X.K F)) (hr : Room k X.A) (hg : Gl X x) (hm : X.mg x = some (.ref f)) (hk : PySem.W.keepIn X.K (.ref f) = true) (hb : KBn X.K fd ps 0 ks (kwG perm) (kwG perm)) (tk : Takes X Wx) (fl : Flat Wx)
    (hkw : DKw C X Wx kws fk) (hall : (backToKw pos (keywordEach kws X.env)).all (·.1.isSome) = true := by rfl) (hks : (backToKw pos (keywordEach kws X.env)).filterMap (·.1) = ks := by rfl)
    (hdb : (x == ("__debug__" : Str)) = false := by decide)
    (hpl : ((backTo pos (starEach [] X.env)).any (·.1) || (backToKw pos (keywordEach kws X.env)).any (·.1.isNone)) = false := by rfl) :
    DE C X Wx (.Call (.Name x p) [] kws pos) (xCallK 0 ks.length perm F aNil fk) := ⟨fun pins s σ H Q I h => by
  refine wpAny_Call_Name_kw (ld_glob I hg hm ?_ hdb)
  refine PySem.W.callWith_KW0 (h₀ := X.base) I.ok.mod.kin hk hall ?_ hpl
  obtain ⟨W, env, s1, e, q⟩ := h
  refine thn (hkw.run pos pins s σ H (fun zs H2 => zs.length = ks.length ∧ spD C X.K F (kwG perm [] zs) H2 Q (WE Wx σ)) I ⟨W, env, s1, e, ?_⟩) fun ws s2 ⟨zs, H2, I2, rz, l2, q2⟩ => ⟨I2.kIn, ?_⟩
  · have q : Res C X.K (fun W H => RD C X.K W H) Wx σ env W H s1 ((fk env s1).bind fun zs s => if ([] : List D).length = 0 ∧ zs.length = ks.length then F s (kwG perm [] zs) else .stuck) Q := q
    refine Res.step q fun W2 H2 s2 es zs l2 e2 r2 q2 => ?_
    by_cases hl : es.length = ks.length
    · rw [if_pos ⟨rfl, hl⟩] at q2
      exact ⟨r2.length.symm.trans hl, sp_of e2 (kwG_rds (ds := []) (vs := []) rfl r2) q2⟩
    · rw [if_neg fun z => hl z.2] at q2
      exact q2.elim
  · rw [hks]
    exact run_fnN (us := []) (vs := []) G hr hb (passF tk fl σ) I2 .nil rz rfl l2 q2⟩
end

/-! ### an instance is made -/
def runMake (c nf : Nat) (g : S → List D → Out D) (s1 : S) (ds : List D) : Out D := match g (s1.own (.ins c [])) (.ref s1.mo.length :: ds) with
  | .ok d s2 => (match d, s2.mo[s1.mo.length]? with
    | .non, some (.ins c' vs) => if c' = c ∧ vs.length = nf then .ok (.inst c vs) (back s1 s2) else .stuck
    | _, _ => .stuck)
  | .exc c vs s2 => if D.lows s1.mo.length s1.tg vs = true then .exc c vs (back s1 s2) else .stuck
  | .stuck => .stuck
section
variable {C : Cfg} {K : PySem.W.Frag} {Wx : WX}
theorem make_ok {c nf : Nat} {g : S → List D → Out D} {σ : L2.St} {env : Env} {W : Wd} {H : Hp} {s : S} {ds : List D} {vs : List V} {Q : VK} {x dx : Addr} (hcf : (C.cf c).length = nf) (e : StE C K W H σ env s) (r : RDs C K W H ds vs) (hx : H x = none) (hdx : H dx = none) (ne : dx ≠ x)
    (q : Res C K (fun W H => RD C K W H) Wx σ env W H s (runMake c nf g s ds) Q) : spD C K g (.ref x :: vs) (L2.upd (L2.upd H dx (.own x)) x (.ins (C.ca c) dx [])) (fun v H2 => v = .non ∧ Q (.ref x) H2) (WE Wx σ) := by
  have nF : ¬ W.F dx := fun z => (e.st.fz dx z).1 hdx
  have nA : dx ∉ W.al := fun z => e.st.alh dx z hdx
  have hx1 : (L2.upd H dx (.own x)) x = none := by rw [upd_ne (Ne.symm ne)]; exact hx
  have l1 : Le W H s W (L2.upd H dx (.own x)) s := Le.fresh hdx
  have e1 : StE C K W (L2.upd H dx (.own x)) σ env s := e.upd nF nA (.none hdx)
  have nF2 : ¬ W.F x := fun z => (e.st.fz x z).1 hx
  have nA2 : x ∉ W.al := fun z => e.st.alh x z hx
  have l2 : Le W H s W (L2.upd (L2.upd H dx (.own x)) x (.ins (C.ca c) dx [])) s := l1.trans (Le.fresh hx1)
  have e2 : StE C K W (L2.upd (L2.upd H dx (.own x)) x (.ins (C.ca c) dx [])) σ env s := e1.upd nF2 nA2 (.none hx1)
  have l3 : Le W H s (W.own x) (L2.upd (L2.upd H dx (.own x)) x (.ins (C.ca c) dx [])) (s.own (.ins c [])) := l2.own e2.st.len hx
  have e3 : StE C K (W.own x) (L2.upd (L2.upd H dx (.own x)) x (.ins (C.ca c) dx [])) σ env (s.own (.ins c [])) := e2.own (by rw [upd_same]; exact fun z => nomatch z) nF2 nA2 ⟨dx, [], by rw [upd_same, List.zip_nil_right], Nat.zero_le _, rfl, rfl⟩
  have at_ : (W.own x).al[s.mo.length]? = some x := by
    show (W.al ++ [x])[s.mo.length]? = some x
    rw [← e.st.len, List.getElem?_append_right (Nat.le_refl _), Nat.sub_self]
    rfl
  refine ⟨W.own x, s.own (.ins c []), .ref s.mo.length :: ds, e3.st, ⟨.ref x, vs, rfl, ⟨x, at_, rfl⟩, r.mono l3 e.st⟩, ?_⟩
  unfold runMake at q
  revert q
  cases g (s.own (.ins c [])) (.ref s.mo.length :: ds) with
  | stuck => exact fun q => q.elim
  | exc c' es s2 =>
    intro q W2 H2 dd ws l4 t4 f4 g4 n4 r4
    have l5 := l3.trans l4
    have q : Res C K (fun W H => RD C K W H) Wx σ env W H s (if D.lows s.mo.length s.tg es = true then .exc c' es (back s s2) else .stuck) Q := q
    by_cases hlow : D.lows s.mo.length s.tg es = true
    · rw [if_pos hlow] at q
      exact q (W.back W2) H2 dd ws (l5.back e.st) (e.later (l5.back e.st) (StS.back l5 e.st t4)) f4 g4 n4 (RDs.low (W := W2) (W' := W.back W2) (n := s.mo.length) (t := s.tg) rfl rfl rfl (fun _ z => z) (fun i hi => back_al l5 i (by rw [e.st.len]; exact hi)) (fun i hi => back_ts l5 i (by rw [e.st.tln]; exact hi)) es ws hlow r4)
    · rw [if_neg hlow] at q
      exact q.elim
  | ok d s2 =>
    intro q W2 H2 v l4 t4 r4
    have l5 := l3.trans l4
    have q : Res C K (fun W H => RD C K W H) Wx σ env W H s (match (generalizing := false) d, s2.mo[s.mo.length]? with
      | .non, some (.ins c' vs) => if c' = c ∧ vs.length = nf then .ok (.inst c vs) (back s s2) else .stuck
      | _, _ => .stuck) Q := q
    have key : ∀ c' fs, d = .non → s2.mo[s.mo.length]? = some (.ins c' fs) → Res C K (fun W H => RD C K W H) Wx σ env W H s (if c' = c ∧ fs.length = nf then .ok (.inst c fs) (back s s2) else .stuck) Q → v = .non ∧ Q (.ref x) H2 := fun c' fs hd hfs q9 => by
      subst hd
      by_cases hh : c' = c ∧ fs.length = nf
      · rw [if_pos hh] at q9
        obtain ⟨rfl, hlen⟩ := hh
        refine ⟨r4, ?_⟩
        have at4 := l4.al _ _ at_
        obtain ⟨dx', ws, h1, h2, h3, h4⟩ := t4.mo _ _ x hfs at4
        obtain ⟨t5, l6⟩ := t4.freeze at4 (fun o ho => by rw [h1] at ho; cases ho; exact fun _ z => nomatch z)
        have l7 := l5.trans l6
        have hb : back s ⟨s2.mo.set s.mo.length .dead, s2.tg⟩ = back s s2 := by
          unfold back
          congr 1
          rw [List.take_set, List.set_eq_of_length_le]
          rw [List.length_take]
          omega
        have lb := l7.back e.st
        have tb := StS.back l7 e.st t5
        rw [hb] at lb tb
        refine q9 (W.back (W2.add x)) H2 (.ref x) lb (e.later lb tb) ⟨x, dx', ws, rfl, .inr rfl, h1, ?_, ?_⟩
        · rw [hcf, ← h3.length, hlen]
        · exact RDs.low (W := W2) (W' := W.back (W2.add x)) (n := 0) (t := 0) rfl rfl rfl (fun _ z => .inl z) (fun i hi => absurd hi (Nat.not_lt_zero _)) (fun i hi => absurd hi (Nat.not_lt_zero _)) fs ws h4 h3
      · rw [if_neg hh] at q9
        exact q9.elim
    cases d with
    | non =>
      cases hmo : s2.mo[s.mo.length]? with
      | none => rw [hmo] at q; exact q.elim
      | some o =>
        rw [hmo] at q
        cases o with
        | ins c' fs => exact key c' fs rfl hmo q
        | _ => exact q.elim
    | _ => exact q.elim
end
section
variable {C : Cfg} {X : Cx} {Wx : WX} {e : Expr} {es : List Expr} {kws : List Keyword} {fe : Ex} {fa fk : Ax} {pos p : Pos} {x : Str} {k n c nf : Nat} {f : Addr} {fd : FuncData} {ps ks : List Str} {F : S → List D → Out D} {perm : List Nat}
/-- C(e, ..) -/
theorem de_make (hcf : (C.cf c).length = nf) (M : Mk X.K (C.ca c) f) (G : FnOk X.prog X.w X.K X.mg X.base (L2.CX X.prog X.w) k f fd ps (spD C X.K F)) (hr : Room (k + 1) X.A) (hg : Gl X x) (hm : X.mg x = some (.ref (C.ca c))) (hb : Binds X.K fd ps []) (tk : Takes X Wx) (fl : Flat Wx)
    (ha : DA C X Wx (e :: es) fa) (hdb : (x == ("__debug__" : Str)) = false := by decide) (he : starEach (e :: es) X.env = (false, eval e X.env) :: starEach es X.env := by rfl) (hpl : (backTo pos (starEach es X.env)).any (·.1) = false := by rfl) :
    DE C X Wx (.Call (.Name x p) (e :: es) [] pos) (xCall (runMake c nf F) fa) := ⟨fun pins s σ H Q I h => by
  refine (pe_make (E := WE Wx σ) (dvs := []) M G hr hg hm hb .nil (passF tk fl σ) ha hdb he hpl).run pins s σ H Q I ?_
  obtain ⟨W, env, s, e, q⟩ := h
  refine ⟨W, env, s, e, Res.step q fun W1 H1 s1 ds vs l1 e1 r1 q1 => fun x dx hx hdx ne => ?_⟩
  rw [List.append_nil]
  exact make_ok hcf e1 r1 hx hdx ne q1⟩
/-- C(k = v, ..) -/
theorem de_makeK0 (hcf : (C.cf c).length = nf) (M : Mk X.K (C.ca c) f) (G : FnOk X.prog X.w X.K X.mg X.base (L2.CX X.prog X.w) k f fd ps (spD C X.K F)) (hr : Room (k + 1) X.A) (hg : Gl X x) (hm : X.mg x = some (.ref (C.ca c))) (hb : KBn X.K fd ps 1 ks (kwG (0 :: perm.map (· + 1))) (kwG (0 :: perm.map (· + 1)))) (tk : Takes X Wx) (fl : Flat Wx)
    (hkw : DKw C X Wx kws fk) (hall : (backToKw pos (keywordEach kws X.env)).all (·.1.isSome) = true := by rfl) (hks : (backToKw pos (keywordEach kws X.env)).filterMap (·.1) = ks := by rfl) (hdb : (x == ("__debug__" : Str)) = false := by decide)
    (hpl : ((backTo pos (starEach [] X.env)).any (·.1) || (backToKw pos (keywordEach kws X.env)).any (·.1.isNone)) = false := by rfl) :
    DE C X Wx (.Call (.Name x p) [] kws pos) (xCallK 0 ks.length perm (runMake c nf F) aNil fk) := ⟨fun pins s σ H Q I h => by
  refine (pe_makeK0 (E := WE Wx σ) M G hr hg hm hb (passF tk fl σ) hkw hall hks hdb hpl).run pins s σ H Q I ?_
  obtain ⟨W, env, s1, e, q⟩ := h
  refine ⟨W, env, s1, e, ?_⟩
  have q : Res C X.K (fun W H => RD C X.K W H) Wx σ env W H s1 ((fk env s1).bind fun zs s => if ([] : List D).length = 0 ∧ zs.length = ks.length then runMake c nf F s (kwG perm [] zs) else .stuck) Q := q
  refine Res.step q fun W2 H2 s2 es zs l2 e2 r2 q2 => ?_
  by_cases hl : es.length = ks.length
  · rw [if_pos ⟨rfl, hl⟩] at q2
    refine ⟨rfl, r2.length.symm.trans hl, fun a dx ha hdx ne => ?_⟩
    have ek : kwG (0 :: perm.map (· + 1)) [V.ref a] zs = V.ref a :: kwG perm [] zs := by
      unfold kwG
      rw [List.filterMap_cons, List.filterMap_map]
      rfl
    rw [ek]
    exact make_ok hcf e2 (kwG_rds (ds := []) (vs := []) rfl r2) ha hdx ne q2
  · rw [if_neg fun z => hl z.2] at q2
    exact q2.elim⟩
end

/-! ### fields -/
/-- ix: the field's place in each class -/
def gFld (ix : Nat → Option Nat) (s : S) (d : D) : Option D := match view s d with
  | .inst c vs => (ix c).bind fun i => vs[i]?
  | _ => none
theorem lookup_zip {f : Str} : ∀ {fs : List Str} {ws : List V} {i : Nat} {v : V}, fs.Nodup → fs[i]? = some f → ws[i]? = some v → (fs.zip ws).lookup f = some v
  | [], _, _, _, _, h, _ => by simp at h
  | g :: fs, [], _, _, _, _, h => by simp at h
  | g :: fs, w :: ws, 0, v, nd, h1, h2 => by
    simp at h1 h2
    subst h1 h2
    simp [List.lookup]
  | g :: fs, w :: ws, i + 1, v, nd, h1, h2 => by
    have hg : f ≠ g := fun z => (List.nodup_cons.mp nd).1 (by rw [← z]; exact List.mem_of_getElem? (by simpa using h1))
    have e : (f == g) = false := by simpa using hg
    show (match f == g with
      | true => some w
      | false => (fs.zip ws).lookup f) = some v
    rw [e]
    exact lookup_zip (List.nodup_cons.mp nd).2 (by simpa using h1) (by simpa using h2)
/-- what the written part says of a class and a field of its instances -/
structure FldC (C : Cfg) (K : PySem.W.Frag) (f : Str) (c i : Nat) : Prop where
  at_ : (C.cf c)[i]? = some f
  nd : (C.cf c).Nodup
  cl : Cls K (C.ca c)
  no : NoAttr K (C.ca c) f
section
variable {C : Cfg} {X : Cx} {Wx : WX} {o e : Expr} {fo fe : Ex} {pos pos' : Pos} {f : Str}
/-- o.f -/
theorem de_fld {ix : Nat → Option Nat} (hf : ∀ c i, ix c = some i → FldC C X.K f c i) (ho : DE C X Wx o fo) (hb : attributeBase o f X.env (eval o X.env) = eval o X.env := by rfl) : DE C X Wx (.Attribute o f pos) (xUn (gFld ix) fo) := PE.imp (pe_fld ho hb) fun σ H Q h => by
  obtain ⟨W, env, s, e, q⟩ := h
  refine ⟨W, env, s, e, Res.step q fun W1 H1 s1 d x l1 e1 h1 q1 => ?_⟩
  have sd := see_of e1.st h1
  revert q1
  unfold Out.of
  cases hz : gFld ix s1 d with
  | none => exact fun q => q.elim
  | some z =>
    intro q
    unfold gFld at hz
    split at hz
    · rename_i c vs hv
      rw [hv] at sd
      cases hi : ix c with
      | none => rw [hi] at hz; cases hz
      | some i =>
        rw [hi] at hz
        obtain ⟨a, dx, ws, rfl, l, n, r⟩ := sd
        obtain ⟨v, g1, g2⟩ := r.get (show vs[i]? = some z from hz)
        have F := hf c i hi
        exact ⟨a, C.ca c, dx, _, v, rfl, l, F.cl, F.no, lookup_zip F.nd F.at_ g1, q.ok' Le.refl e1 g2⟩
    · cases hz
/-- o.f = e: in its place, or behind the others -/
def insSet (i : Nat) (s : S) (x d : D) : Option S := match x.strip with
  | .ref j => (match s.mo[j]? with
    | some (.ins c vs) => if d.low 0 0 = true then (if i < vs.length then some (s.put j (.ins c (vs.set i d))) else if i = vs.length then some (s.put j (.ins c (vs ++ [d]))) else none) else none
    | _ => none)
  | _ => none
def sFldS (ix : Nat → Option Nat) (fo fe : Ex) : Sx := fun e s => (fe e s).fl e fun d s => (fo e s).fl e fun x s => match view s x with
  | .inst c _ => (match (ix c).bind fun i => insSet i s x d with
    | some s' => .next e s'
    | none => .stuck)
  | _ => .stuck
theorem putF_set {f : Str} {v : V} : ∀ {fs : List Str} {ws : List V} {i : Nat}, fs.Nodup → fs[i]? = some f → i < ws.length → putF f v (fs.zip ws) = fs.zip (ws.set i v)
  | [], _, _, _, h, _ => by simp at h
  | g :: fs, [], _, _, _, h => by simp at h
  | g :: fs, w :: ws, 0, nd, h, _ => by
    simp at h
    subst h
    show (if g = g then _ else _) = _
    rw [if_pos rfl]
    rfl
  | g :: fs, w :: ws, i + 1, nd, h, hl => by
    have hg : g ≠ f := fun z => (List.nodup_cons.mp nd).1 (by rw [z]; exact List.mem_of_getElem? (by simpa using h))
    show (if g = f then (g, v) :: fs.zip ws else (g, w) :: putF f v (fs.zip ws)) = _
    rw [if_neg hg, putF_set (List.nodup_cons.mp nd).2 (by simpa using h) (by simpa using hl)]
    rfl
theorem putF_new {f : Str} {v : V} : ∀ {fs : List Str} {ws : List V}, fs.Nodup → fs[ws.length]? = some f → putF f v (fs.zip ws) = fs.zip (ws ++ [v])
  | [], _, _, h => by simp at h
  | g :: fs, [], _, h => by
    simp at h
    subst h
    simp [putF]
  | g :: fs, w :: ws, nd, h => by
    have hg : g ≠ f := fun z => (List.nodup_cons.mp nd).1 (by rw [z]; exact List.mem_of_getElem? (by simpa using h))
    show (if g = f then (g, v) :: fs.zip ws else (g, w) :: putF f v (fs.zip ws)) = _
    rw [if_neg hg, putF_new (List.nodup_cons.mp nd).2 (by simpa using h)]
    rfl
theorem ds_fld {ix : Nat → Option Nat} (hf : ∀ c i, ix c = some i → FldC C X.K f c i) (hn : ∀ c, (C.cf c).length < 1000) (ho : DE C X Wx o fo) (he : DE C X Wx e fe) (hs : swapsWith e (some (.Attribute o f pos')) pos.line X.env = pure false := by rfl) : DS C X Wx (.Assign [.Attribute o f pos'] e pos) (sFldS ix fo fe) :=
  PS.imp (ps_fld ho he hs) fun En σ H h => by
    obtain ⟨W, env, s, e, q⟩ := h
    refine ⟨W, env, s, e, Res.fl q fun W1 H1 s1 d y l1 e1 r1 q1 => ⟨W1, env, s1, e1, Res.fl q1 fun W2 H2 s2 x vx l2 e2 r2 q2 => ?_⟩⟩
    have sd := see_of e2.st r2
    have r1 := r1.mono l2 e1.st
    revert q2
    split
    · rename_i c fs hv
      intro q2
      cases hi : ix c with
      | none => rw [hi] at q2; exact q2.elim
      | some i =>
        rw [hi] at q2
        have q4 : ResS C X.K Wx En W2 H2 s2 (match insSet i s2 x d with
          | some s' => .next env s'
          | none => .stuck) := q2
        clear q2
        have F := hf c i hi
        cases hz : insSet i s2 x d with
        | none => rw [hz] at q4; exact q4.elim
        | some s3 =>
          rw [hz] at q4
          have r2 := r2.strip
          unfold insSet at hz
          generalize hx : x.strip = x0 at r2 hz
          cases x0 with
          | ref j =>
            obtain ⟨a, ha, rfl⟩ := r2
            have hz : (match s2.mo[j]? with
              | some (.ins c vs) => if d.low 0 0 = true then (if i < vs.length then some (s2.put j (.ins c (vs.set i d))) else if i = vs.length then some (s2.put j (.ins c (vs ++ [d]))) else none) else none
              | _ => none) = some s3 := hz
            split at hz
            · rename_i c' us hu
              have hv2 : view s2 x = .inst c' us := by
                unfold view
                rw [hx]
                show (match s2.mo[j]? with
                  | some (.lst xs) => D.lst xs
                  | some (.dK ks vs) => .dct ks vs
                  | some (.dT ks vs) => .dct ks vs
                  | some (.ins c vs) => .inst c vs
                  | _ => .ref j) = _
                rw [hu]
              rw [hv] at hv2
              cases hv2
              obtain ⟨dx, ws, g1, g2, g3, g4⟩ := e2.st.mo j _ a hu ha
              split at hz
              · rename_i hl
                have zl : ((C.cf c).zip ws).length < 1000 := by
                  rw [List.length_zip]
                  have := hn c
                  omega
                split at hz
                · rename_i hlt
                  cases hz
                  obtain ⟨t3, l3⟩ := e2.st.write (o' := .ins c (fs.set i d)) (u := .ins (C.ca c) dx ((C.cf c).zip (ws.set i y))) ha hu (fun z => nomatch z) fun lf => ⟨dx, ws.set i y, upd_same, by rw [List.length_set]; exact g2, (g3.lf lf).set (r1.lf lf) i, lows_set hl g4⟩
                  refine ⟨a, C.ca c, dx, _, rfl, g1, F.cl, F.no, zl, ?_⟩
                  rw [putF_set F.nd F.at_ (by rw [← g3.length]; exact hlt)]
                  exact q4 W2 σ _ l3 (e2.later l3 t3)
                · split at hz
                  · rename_i heq
                    cases hz
                    subst heq
                    have at_ : (C.cf c)[ws.length]? = some f := by rw [← g3.length]; exact F.at_
                    obtain ⟨t3, l3⟩ := e2.st.write (o' := .ins c (fs ++ [d])) (u := .ins (C.ca c) dx ((C.cf c).zip (ws ++ [y]))) ha hu (fun z => nomatch z) fun lf => ⟨dx, ws ++ [y], upd_same, by
                      rw [List.length_append]
                      exact (List.getElem?_eq_some_iff.mp at_).1, (g3.lf lf).append ⟨y, [], rfl, r1.lf lf, rfl⟩, lows_app g4 (lows_one hl)⟩
                    refine ⟨a, C.ca c, dx, _, rfl, g1, F.cl, F.no, zl, ?_⟩
                    rw [putF_new F.nd at_]
                    exact q4 W2 σ _ l3 (e2.later l3 t3)
                  · cases hz
              · cases hz
            · cases hz
          | _ => cases hz
    · exact fun q2 => q2.elim
end
/-! ### methods of own classes -/
def xMeth (c : Nat) (g : S → List D → Out D) (fo : Ex) (fa : Ax) : Ex := fun e s => (fo e s).bind fun x s => match view s x with
  | .inst c' _ => if c' = c then (fa e s).bind fun ds s => g s (x :: ds) else .stuck
  | _ => .stuck
section
variable {C : Cfg} {X : Cx} {Wx : WX} {o e : Expr} {es : List Expr} {fo : Ex} {fa : Ax} {pos apos : Pos} {m : Str} {k c : Nat} {f : Addr} {fd : FuncData} {ps : List Str} {F : S → List D → Out D} {pl : Sem Bool}
theorem meth_ok {σ : L2.St} {env : Env} {W : Wd} {H : Hp} {s : S} {Q : VK} (hno : m ∉ C.cf c) (e : StE C X.K W H σ env s) (q : Res C X.K (fun W H => RD C X.K W H) Wx σ env W H s (xMeth c F fo fa env s) Q) : tMeth (C.ca c) m (spD C X.K F) [] (WE Wx σ) (tD C X.K Wx fo) (tAx C X.K Wx fa) σ H Q := by
  refine ⟨W, env, s, e, Res.step q fun W1 H1 s1 d x l1 e1 h1 q1 => ?_⟩
  have sd := see_of e1.st h1
  revert q1
  split
  · rename_i c' vs hv
    rw [hv] at sd
    split
    · rename_i hc
      subst hc
      intro q1
      obtain ⟨a, dx, ws, rfl, l, n, r⟩ := sd
      refine ⟨a, dx, _, rfl, l, ?_, W1, env, s1, e1, Res.step q1 fun W2 H2 s2 ds us l2 e2 r2 q2 => ?_⟩
      · cases hl : ((C.cf c').zip ws).lookup m with
        | none => rfl
        | some v => exact absurd (List.of_mem_zip (PySem.mem_of_lookup hl)).1 hno
      · rw [List.append_nil]
        exact sp_of (ds := d :: ds) e2 ⟨_, us, rfl, h1.mono l2 e1.st, r2⟩ q2
    · exact fun q => q.elim
  · exact fun q => q.elim
/-- o.m(e, ..) -/
theorem de_meth (hno : m ∉ C.cf c) (ho : DE C X Wx o fo) (cl : Cls X.K (C.ca c)) (hm : Meth X.K (C.ca c) m f) (G : FnOk X.prog X.w X.K X.mg X.base (L2.CX X.prog X.w) k f fd ps (spD C X.K F)) (hr : Room k X.A) (hb : Binds X.K fd ps []) (tk : Takes X Wx) (fl : Flat Wx) (ha : DA C X Wx (e :: es) fa)
    (hst : starEach (e :: es) X.env = (false, eval e X.env) :: starEach es X.env := by rfl) (hpl : (backTo pos (starEach es X.env)).any (·.1) = false := by rfl)
    (ht : eval (.Call (.Attribute o m apos) (e :: es) [] pos) X.env = (do
      let ov ← eval o X.env
      standAt apos.atName
      let (f, first) ← holding [ov] (getMethod ov m pl)
      callWith pos f first (backTo pos (starEach (e :: es) X.env)) (backToKw pos (keywordEach [] X.env))) := by rfl) :
    DE C X Wx (.Call (.Attribute o m apos) (e :: es) [] pos) (xMeth c F fo fa) := ⟨fun pins s σ H Q I h => by
  refine (pe_meth (E := WE Wx σ) (dvs := []) ho cl hm G hr hb .nil (passF tk fl σ) ha hst hpl ht).run pins s σ H Q I ?_
  obtain ⟨W, env, s, e, q⟩ := h
  exact meth_ok hno e q⟩
/-- o.m() -/
theorem de_meth0 (hno : m ∉ C.cf c) (ho : DE C X Wx o fo) (cl : Cls X.K (C.ca c)) (hm : Meth X.K (C.ca c) m f) (G : FnOk X.prog X.w X.K X.mg X.base (L2.CX X.prog X.w) k f fd ps (spD C X.K F)) (hr : Room k X.A) (hb : Binds X.K fd ps []) (tk : Takes X Wx) (fl : Flat Wx)
    (ht : eval (.Call (.Attribute o m apos) [] [] pos) X.env = (do
      let ov ← eval o X.env
      standAt apos.atName
      let (f, first) ← holding [ov] (getMethod ov m pl)
      callWith pos f first (backTo pos (starEach [] X.env)) (backToKw pos (keywordEach [] X.env))) := by rfl) :
    DE C X Wx (.Call (.Attribute o m apos) [] [] pos) (xMeth c F fo aNil) := ⟨fun pins s σ H Q I h => by
  refine (pe_meth0 (E := WE Wx σ) (dvs := []) ho cl hm G hr hb .nil (passF tk fl σ) ht).run pins s σ H Q I ?_
  obtain ⟨W, env, s, e, q⟩ := h
  have z := meth_ok (fa := aNil) hno e q
  obtain ⟨W, env, s, e, q⟩ := z
  refine ⟨W, env, s, e, Res.imp q fun x H1 ⟨a, dx, fs, h1, h2, h3, W1, env1, s1, e1, h4⟩ => ⟨a, dx, fs, h1, h2, h3, ?_⟩⟩
  exact Res.here (a := ([] : List D)) (b := ([] : List V)) h4 e1 rfl⟩
end
end DV
end
section
set_option Elab.async false
set_option linter.all false
set_option maxRecDepth 100000
set_option maxHeartbeats 1000000
/-! DZ: try with clauses «except C as e: return [word, e.field]». -/
namespace DV
open PySem PySem.Spec PyProof.Rows L2

abbrev TSu := Addr → Value → Option Addr → TS
/-- a clause: its class, the slot of its name, what its suite asks -/
abbrev Cla := Value × Nat × TSu
/-- what the clauses wish of an error that leaves the body -/
def wNam (K : PySem.W.Frag) (Wout : WX) (En : Ends) : List Cla → WX
  | [] => Wout
  | p :: r => fun cls d σ H => ∃ b, PySem.W.exmOne K cls p.1 = some b ∧ (b = false → wNam K Wout En r cls d σ H) ∧
      (b = true → ∀ a, H a = none → p.2.2 a cls d ⟨fun σ' H' => En.nx (σ'.set p.2.1 none) H', En.rt, fun σ' H' => En.bk (σ'.set p.2.1 none) H', fun σ' H' => En.ct (σ'.set p.2.1 none) H'⟩ (σ.set p.2.1 (some (.ref a))) H)
inductive ClasOk (X : Cx) : List ExceptHandler → List Cla → Prop
  | nil : ClasOk X [] []
  | cons {x n : Str} {c : Value} {i : Nat} {ts : TSu} {st : Stmt} {suite : List Stmt} {np hp : Pos} {hs : List ExceptHandler} {l : List Cla} (hc : Names X x c) (hi : X.N[i]? = some n) (hl : X.env.kindOf n = some .local)
      (su : ∀ (a : Addr) (oe : Obj) (cls : Value) (d : Option Addr) (pn : List (Addr × Obj)), Zc cls d oe → (∃ vs, oe.data = .fields vs) → PSs (X.suite a ((a, oe) :: pn)) (st :: suite) (ts a cls d)) (r : ClasOk X hs l) :
      ClasOk X (.ExceptHandler (some (.Name x np)) (some n) (st :: suite) hp :: hs) ((c, i, ts) :: l)
section
variable {X : Cx} {body : List Stmt} {h0 : ExceptHandler} {hs : List ExceptHandler} {l : List Cla} {pos : Pos} {tb : WX → TS} {Wout : WX}
theorem ps_try_named (e1 : X.stack = X.env :: X.outer) (e2 : X.env.frame = some X.env.locals) (hN : X.N.Nodup) (tk : Takes X Wout)
    (hb : ∀ (W : WX) (pn : List (Addr × Obj)) (xe : Value → Shared → Prop), Takes (X.tr pn xe) W → PassesOwn (model X.prog X.w) X.A X.env xe → PSs (X.tr pn xe) body (tb W)) (hk : ClasOk X (h0 :: hs) l) :
    PS X (.Try body (h0 :: hs) [] [] pos) (fun En σ H => tb (wNam X.K Wout En l) En σ H) := by
  refine ⟨fun pins sh σ H En J h => ?_⟩
  have ok := J.ok
  have frs_ : X.A.frames = some (X.env :: X.outer) := by rw [ok.frames, e1]
  let M := model X.prog X.w
  let XE' : Value → Shared → Prop := fun e y1 => wpAny M X.A (noteFrame e X.env) (fun _ y2 => wpAny M X.A (setFlight e none) (fun _ y3 => wpAny M X.A (handleBy e X.env (h0 :: hs)) (SP X pins En) X.xe y3) X.xe y2) X.xe y1
  have caught : Takes (X.tr (X.pn ++ pins) XE') (wNam X.K Wout En l) := by
    intro u y xx
    obtain ⟨a, B, sI, pins', σ1, H1, cls, d, rfl, J', nb, up, sky, na, os, ag, wish⟩ := xx
    have J1 : Inv X pins σ1 H1 sI := J'.ofTry ok
    have sky1 : Sky B (X.env :: X.outer) a (Zc cls d) X.env.locals y.heap := by rw [← e1]; exact sky
    show wpAny M X.A (noteFrame (.ref a) X.env) _ _ _
    refine Sky.land Zc.steady frs_ e2 sky1 fun g3 fl3 up3 => ?_
    have J3 : Inv X pins σ1 H1 { y with heap := g3 } := J1.landed nb fl3.1 (up.trans up3) os ag
    obtain ⟨oe, flds, at_a, zc, dat⟩ := fl3.there
    have off : a ∉ frs (X.env :: X.outer) := fun hm => by
      obtain ⟨_, o2, at2, no⟩ := fl3.2.2.1.mem hm
      rw [at_a] at at2
      cases at2
      exact no _ dat
    have offL : a ≠ X.env.locals := fun z => off (List.mem_filterMap.mpr ⟨X.env, List.mem_cons_self, by rw [e2, z]⟩)
    have offF : a ∉ X.fs := fun hm => by
      obtain ⟨en, hen, q⟩ := List.mem_filterMap.mp hm
      exact off (List.mem_filterMap.mpr ⟨en, List.mem_cons_of_mem _ hen, q⟩)
    have S3 := J3.suite at_a dat na offL offF
    suffices each : ∀ {hs' : List ExceptHandler} {l' : List Cla}, ClasOk X hs' l' → wNam X.K Wout En l' cls d σ1 H1 → wpAny M X.A (handleBy (.ref a) X.env hs') (SP X pins En) X.xe { y with heap := g3 } from each hk wish
    intro hs' l' k
    induction k with
    | nil =>
      intro wish
      refine wpAny_handleBy_nil ?_
      obtain ⟨_, _, _, oe5, flds5, T, _, _, at5, _, dat5, f5, _⟩ := id fl3
      unfold PySem.passOn
      refine wpAny_bind (wpAny_field at5 dat5 f5 ?_)
      rw [if_neg (show ¬ ((Value.ref T == Value.none) = true) from by simp)]
      have out : wpAny M X.A (setFlight (.ref a) X.env.frame) (fun _ y4 => wpAny M X.A (throw (.ref a) : Sem Flow) (SP X pins En) X.xe y4) X.xe { y with heap := g3 } := by
        rw [e2]
        exact HandSPX.setFlight_upZ fl3 fun g4 on4 up4 => wpAny_throw (tk _ _ ⟨a, B, sI, pins, σ1, H1, cls, d, rfl, J1, nb, (up.trans up3).trans up4, .inr (.inr (by rw [e1]; exact on4)), na, os, ag, wish⟩)
      first
        | exact wpAny_bind out
        | exact wpAny_bind (wpAny_pure (wpAny_bind out))
    | @cons x n c i ts st suite np hp hs2 l2 hc hi hl su r ih =>
      intro wish
      obtain ⟨b, cmp, no, yes⟩ := wish
      refine wpAny_handleBy_cons (codeAny_handlers_test ?_) (by intro z; cases z)
      have ty : PySem.W.Looks M g3 (typeOf (.ref a)) cls := fun A Q E s kp q => wpAny_typeOf_ref (kp _ _ at_a) (by rw [zc.1]; exact q)
      have looks := PySem.W.exm_one (M := M) J3.kIn ty cmp
      have named : ∀ {Q E : Value → Shared → Prop}, Q c { y with heap := g3 } → wpAny M (X.A.mark (some (.ref a))) (eval (.Name x np) X.env) Q E { y with heap := g3 } := fun {Q E} q => by
        obtain ⟨gl, db, own | ⟨nown, blt, nn⟩⟩ := hc
        · exact ld_glob (X := X.suite a ((a, oe) :: (X.pn ++ pins))) S3 gl own q db
        · exact ld_blt (X := X.suite a ((a, oe) :: (X.pn ++ pins))) S3 gl nown blt q nn db
      refine named (looks.here ?_)
      cases b with
      | false => exact ih (no rfl)
      | true =>
        refine codeAny_handlers_suite_as ?_
        refine HandSPX.lands_againZ fl3 fun g4 fl4 up4 => ?_
        have J4 : Inv X pins σ1 H1 { y with heap := g4 } := J1.landed nb fl4.1 ((up.trans up3).trans up4) os ag
        obtain ⟨oe4, flds4, at4, zc4, dat4⟩ := fl4.there
        have S4 := J4.suite at4 dat4 na offL offF
        refine store_ok (X := X.suite a ((a, oe4) :: (X.pn ++ pins))) (v := .ref a) S4 hN hi (.inl hl) rfl (fun y5 S5 => ?_) (.inr hl)
        refine wpAny_mono ((su a oe4 cls d (X.pn ++ pins) zc4 ⟨_, dat4⟩).run [] y5 _ H1 _ S5 (yes rfl a na)) (fun fl y6 post => ?_) fun _ _ z => z.elim
        have fin : ∀ {σ6 : L2.St} {H6 : Hp} {Q : Shared → Prop}, Inv (X.suite a ((a, oe4) :: (X.pn ++ pins))) [] σ6 H6 y6 → (∀ y7, Inv X pins (σ6.set i none) H6 y7 → Q y7) →
            wpAny M X.A (do bindName X.env n .none; unbindBehindTheSuite X.env n hp) (fun _ y7 => Q y7) X.xe y6 := fun {σ6 H6 Q} S6 q => gone_ok (S6.unsuite ok) hN hi hl q
        cases fl with
        | ret u =>
          obtain ⟨v, σ6, H6, S6, rv, q⟩ := post
          exact fin S6 fun y7 J7 => ⟨_, _, _, J7, rv, q⟩
        | next =>
          obtain ⟨σ6, H6, S6, q⟩ := post
          exact fin S6 fun y7 J7 => ⟨_, _, J7, q⟩
        | brk =>
          obtain ⟨σ6, H6, S6, q⟩ := post
          exact fin S6 fun y7 J7 => ⟨_, _, J7, q⟩
        | cont =>
          obtain ⟨σ6, H6, S6, q⟩ := post
          exact fin S6 fun y7 J7 => ⟨_, _, J7, q⟩
  refine wpAny_Try_except (wpAny_mono ((hb (wNam X.K Wout En l) (X.pn ++ pins) XE' caught PassesOwn.looking).run [] sh σ H En (J.toTry _) h) (fun fl y1 post => ?_) fun _ _ z => z)
  cases fl with
  | ret u =>
    obtain ⟨v, σ1, H1, J1, rv, q⟩ := post
    exact ⟨v, σ1, H1, J1.ofTry ok, rv, q⟩
  | next =>
    obtain ⟨σ1, H1, J1, q⟩ := post
    exact wpAny_execs_nil ⟨σ1, H1, J1.ofTry ok, q⟩
  | brk =>
    obtain ⟨σ1, H1, J1, q⟩ := post
    exact ⟨σ1, H1, J1.ofTry ok, q⟩
  | cont =>
    obtain ⟨σ1, H1, J1, q⟩ := post
    exact ⟨σ1, H1, J1.ofTry ok, q⟩
end

/-! ### over data: every clause is «except C as e: return [word, e.field]» -/
/-- what such a suite asks -/
def tsF (C : Addr) (i : Nat) (w f : Str) : TSu := fun a cls d => tRet (tLst (tCons (tC (.str w)) (tCons (tXf a cls d C f (tVar i)) tNil)))
/-- class, word, field -/
abbrev ClaD := Nat × Str × Str
def claD (C : Cfg) (i : Nat) : List ClaD → List Cla
  | [] => []
  | p :: r => (.ref (C.ca p.1), i, tsF (C.ca p.1) i p.2.1 p.2.2) :: claD C i r
def pick (c : Nat) : List ClaD → Option Str
  | [] => none
  | p :: r => if c = p.1 then some p.2.1 else pick c r
def sTryF (i : Nat) (known : List Nat) (hs : List ClaD) (body : Sx) : Sx := fun e s => match body e s with
  | .exc c vs e' s' => if c ∈ known ∧ i < e'.length then (match pick c hs with
    | some w => (match (generalizing := false) vs with
      | [y] => .ret (.lst [.str w, y]) s'
      | _ => .stuck)
    | none => .exc c vs e' s') else .stuck
  | r => r
section
variable {C : Cfg} {X : Cx} {Wx : WX} {i : Nat} {n : Str}
theorem cla_nil : ClasOk X [] (claD C i []) := .nil
theorem cla_cons {x w fld : Str} {c j : Nat} {np p1 p2 p3 p4 p5 hp : Pos} {hs : List ExceptHandler} {l : List ClaD} (hc : Names X x (.ref (C.ca c))) (hi : X.N[i]? = some n) (hl : X.env.kindOf n = some .local) (T : XfC X.K (C.ca c)) (hno : PySem.W.findIn X.K (.ref (C.ca c)) fld = some none)
    (r : ClasOk X hs (claD C i l)) (hd : (n == ("__debug__" : Str)) = false := by decide) (hcd : (n == ("__classdict__" : Str)) = false := by decide) (hba : attributeBase (.Name n p2) fld X.env (eval (.Name n p2) X.env) = eval (.Name n p2) X.env := by rfl)
    (hst : ∀ env : PySem.Env, starEach [.Constant (.str w) j p1, .Attribute (.Name n p2) fld p3] env = (false, eval (.Constant (.str w) j p1) env) :: starEach [.Attribute (.Name n p2) fld p3] env := by intro _; rfl)
    (hst2 : ∀ env : PySem.Env, starEach [.Attribute (.Name n p2) fld p3] env = (false, eval (.Attribute (.Name n p2) fld p3) env) :: starEach [] env := by intro _; rfl) :
    ClasOk X (.ExceptHandler (some (.Name x np)) (some n) [.Return (some (.List [.Constant (.str w) j p1, .Attribute (.Name n p2) fld p3] p4)) p5] hp :: hs) (claD C i ((c, w, fld) :: l)) :=
  .cons hc hi hl (fun a oe cls d pn z hf => by
    have pv : PE (X.suite a ((a, oe) :: pn)) (.Name n p2) (tVar i) := pe_var hi (.inl hl) hd hcd
    have px := pe_xf (pos := p3) T hno z hf pv hba
    exact pss_one (ps_ret (pe_lst (pa_cons pe_str (pa_cons px pa_nil (hst2 _)) (hst _))))) r
theorem nam_of {K : PySem.W.Frag} {known : List Nat} {c : Nat} {env : Env} {s : S} {W0' W : Wd} {H0 H : Hp} {s0 : S} {σ : L2.St} {En : Ends} {dd : Addr} {vs : List D} {ws : List V} (hc : c ∈ known) (hi : i < env.length) (l : Le W0' H0 s0 W H s) (e : StE C K W H σ env s) (f : W.F dd) (g : H dd = some (.xd ((C.cf c).zip ws))) (len : (C.cf c).length = ws.length) (r : RDs C K W H vs ws) :
    ∀ hs : List ClaD, (∀ p ∈ hs, C.cf p.1 = [p.2.2]) → (∀ p ∈ hs, ∀ k ∈ known, PySem.W.exmOne K (.ref (C.ca k)) (.ref (C.ca p.1)) = some (decide (k = p.1))) → ResS C K Wx En W0' H0 s0 (match pick c hs with
      | some w => (match (generalizing := false) vs with
        | [y] => .ret (.lst [.str w, y]) s
        | _ => .stuck)
      | none => .exc c vs env s) → wNam K Wx En (claD C i hs) (.ref (C.ca c)) (some dd) σ H
  | [], _, _, q => q W σ H dd ws l e f g len r
  | p :: hs, hf, hx, q => by
    refine ⟨decide (c = p.1), hx p List.mem_cons_self c hc, fun hn => ?_, fun hy a ha => ?_⟩
    · have ne := of_decide_eq_false hn
      have ep : pick c (p :: hs) = pick c hs := by
        show (if c = p.1 then some p.2.1 else pick c hs) = _
        exact if_neg ne
      rw [ep] at q
      exact nam_of hc hi l e f g len r hs (fun p hp => hf p (List.mem_cons_of_mem _ hp)) (fun p hp => hx p (List.mem_cons_of_mem _ hp)) q
    · have eq := of_decide_eq_true hy
      have ep : pick c (p :: hs) = some p.2.1 := by
        show (if c = p.1 then some p.2.1 else pick c hs) = _
        exact if_pos eq
      rw [ep] at q
      have hfld := hf p List.mem_cons_self
      rw [← eq] at hfld
      match vs, r, q with
      | [], _, q => exact q.elim
      | _ :: _ :: _, _, q => exact q.elim
      | [y], r, q =>
        obtain ⟨v, rfl, ry⟩ := rds1 r
        have q : ResS C K Wx En W0' H0 s0 (.ret (.lst [.str p.2.1, y]) s) := q
        refine ⟨.ref a, ?_, rfl, by rw [eq], dd, _, v, rfl, g, ?_, by show 2 ≤ sizeLine; decide, fun pt hpt => ?_⟩
        · exact List.getElem?_set_self (by rw [e.sl]; exact hi)
        · rw [hfld]
          simp [List.lookup]
        · have l2 : Le W H s (W.add pt) (L2.upd H pt (.lst [.str p.2.1, v])) s := Le.laid e.st hpt
          have t2 := e.st.laid hpt (o := .lst [.str p.2.1, v]) (fun _ z => nomatch z)
          exact q (W.add pt) (.ref pt) _ (l.trans l2) t2 ⟨pt, _, rfl, .inr rfl, upd_same, .str p.2.1, [v], rfl, rfl, v, [], rfl, ry.mono l2 e.st, rfl⟩
theorem ds_tryF {body : List Stmt} {h0 : ExceptHandler} {hd : List ExceptHandler} {pos : Pos} {known : List Nat} {hs : List ClaD} {fb : Sx} (e1 : X.stack = X.env :: X.outer) (e2 : X.env.frame = some X.env.locals) (hN : X.N.Nodup) (tk : Takes X Wx)
    (hb : ∀ (W : WX) (pn : List (Addr × Obj)) (xe : Value → Shared → Prop), Takes (X.tr pn xe) W → PassesOwn (model X.prog X.w) X.A X.env xe → DSs C (X.tr pn xe) W body fb) (hk : ClasOk X (h0 :: hd) (claD C i hs))
    (hf : ∀ p ∈ hs, C.cf p.1 = [p.2.2]) (hx : ∀ p ∈ hs, ∀ k ∈ known, PySem.W.exmOne X.K (.ref (C.ca k)) (.ref (C.ca p.1)) = some (decide (k = p.1))) :
    DS C X Wx (.Try body (h0 :: hd) [] [] pos) (sTryF i known hs fb) := PS.imp (ps_try_named (tb := fun W => tS C X.K W fb) e1 e2 hN tk hb hk) fun En σ H h => by
  obtain ⟨W, env, s, e, q⟩ := h
  refine ⟨W, env, s, e, ?_⟩
  unfold sTryF at q
  revert q
  cases fb env s with
  | next e' s' => exact fun q => q
  | ret d s' => exact fun q => q
  | brk e' s' => exact fun q => q
  | cont e' s' => exact fun q => q
  | stuck => exact fun q => q
  | exc c vs e' s' =>
    intro q W2 σ2 H2 dd ws l2 e3 f2 g2 n2 r2
    have q : ResS C X.K Wx En W H s (if c ∈ known ∧ i < e'.length then (match pick c hs with
      | some w => (match (generalizing := false) vs with
        | [y] => .ret (.lst [.str w, y]) s'
        | _ => .stuck)
      | none => .exc c vs e' s') else .stuck) := q
    by_cases hh : c ∈ known ∧ i < e'.length
    · rw [if_pos hh] at q
      exact nam_of hh.1 hh.2 l2 e3 f2 g2 n2 r2 hs hf hx q
    · rw [if_neg hh] at q
      exact q.elim
end
end DV
end
section
set_option Elab.async false
set_option linter.all false
set_option maxRecDepth 100000
set_option maxHeartbeats 2000000
/-! DJ: lambdas: a frame that makes some, a def that calls one. -/
namespace DV
open PySem PySem.Spec PyProof.Rows L2

/-! ### another meaning of lambdas: the same for what holds none -/
def Cfg.wl (C : Cfg) (r : LamR) : Cfg := { C with lr := r }
section
variable {C : Cfg} {K : PySem.W.Frag} {W : Wd} {H : Hp} {s : S} {r r' : LamR}
theorem RD.wl {n t : Nat} {d : D} {v : V} (h : d.low n t = true) (q : RD (C.wl r) K W H d v) : RD (C.wl r') K W H d v := RD.low (C := C.wl r) (C' := C.wl r') (n := n) (t := t) rfl rfl rfl (fun _ z => z) (fun _ _ => rfl) (fun _ _ => rfl) d v h q
theorem RDs.wl {n t : Nat} {d : List D} {v : List V} (h : D.lows n t d = true) (q : RDs (C.wl r) K W H d v) : RDs (C.wl r') K W H d v := RDs.low (C := C.wl r) (C' := C.wl r') (n := n) (t := t) rfl rfl rfl (fun _ z => z) (fun _ _ => rfl) (fun _ _ => rfl) d v h q
theorem MOk.wl {a : Addr} {o : MO} (m : MOk (C.wl r) K W H a o) : MOk (C.wl r') K W H a o := by
  cases o with
  | lst xs =>
    obtain ⟨vs, h1, h2, h3⟩ := m
    exact ⟨vs, h1, h2.wl h3, h3⟩
  | dK ks vs =>
    obtain ⟨kvs, h1, h2, h3, h4⟩ := m
    exact ⟨kvs, h1, h2, h3.wl h4, h4⟩
  | dT ks vs =>
    obtain ⟨kvs, h1, h2, h3, h4⟩ := m
    exact ⟨kvs, h1, h2, h3.wl h4, h4⟩
  | ins c vs =>
    obtain ⟨dx, ws, h1, h2, h3, h4⟩ := m
    exact ⟨dx, ws, h1, h2, h3.wl h4, h4⟩
  | dead => exact trivial
theorem StS.wl (t : StS (C.wl r) K W H s) : StS (C.wl r') K W H s := ⟨t.len, t.tln, t.nod, fun i o a h1 h2 => (t.mo i o a h1 h2).wl, t.fz, t.alh, t.tb⟩
end
/-- arguments and results hold no lambda -/
def lowO (o : Out D) : Out D := match o with
  | .ok d s' => if d.low s'.mo.length s'.tg = true then .ok d s' else .stuck
  | .exc c vs s' => if D.lows s'.mo.length s'.tg vs = true then .exc c vs s' else .stuck
  | .stuck => .stuck
def lowF (F : S → List D → Out D) : S → List D → Out D := fun s ds => if D.lows s.mo.length s.tg ds = true then lowO (F s ds) else .stuck
section
variable {C : Cfg} {K : PySem.W.Frag} {r r' : LamR} {F : S → List D → Out D}
theorem spD_wl {vs : List V} {H : Hp} {Q : VK} {E : XK} (h : spD (C.wl r) K (lowF F) vs H Q E) : spD (C.wl r') K F vs H Q E := by
  obtain ⟨W, s, ds, t, rd, q⟩ := h
  unfold lowF at q
  by_cases hl : D.lows s.mo.length s.tg ds = true
  · rw [if_pos hl] at q
    refine ⟨W, s, ds, t.wl, rd.wl hl, ?_⟩
    revert q
    cases F s ds with
    | stuck => exact fun q => q
    | ok d s' =>
      intro q W' H' v l t' r'
      have q : (match (if d.low s'.mo.length s'.tg = true then Out.ok d s' else .stuck) with
        | .ok d s' => ∀ W' H' v, Le W H s W' H' s' → StS (C.wl r) K W' H' s' → RD (C.wl r) K W' H' d v → Q v H'
        | .exc c es s' => ∀ W' H' dd ws, Le W H s W' H' s' → StS (C.wl r) K W' H' s' → W'.F dd → H' dd = some (.xd ((C.cf c).zip ws)) → (C.cf c).length = ws.length → RDs (C.wl r) K W' H' es ws → E (.ref (C.ca c)) (some dd) H'
        | .stuck => False) := q
      by_cases hd : d.low s'.mo.length s'.tg = true
      · rw [if_pos hd] at q
        exact q W' H' v l t'.wl (RD.wl hd r')
      · rw [if_neg hd] at q
        exact q.elim
    | exc c es s' =>
      intro q W' H' dd ws l t' f g n r'
      have q : (match (if D.lows s'.mo.length s'.tg es = true then Out.exc c es s' else .stuck) with
        | .ok d s' => ∀ W' H' v, Le W H s W' H' s' → StS (C.wl r) K W' H' s' → RD (C.wl r) K W' H' d v → Q v H'
        | .exc c es s' => ∀ W' H' dd ws, Le W H s W' H' s' → StS (C.wl r) K W' H' s' → W'.F dd → H' dd = some (.xd ((C.cf c).zip ws)) → (C.cf c).length = ws.length → RDs (C.wl r) K W' H' es ws → E (.ref (C.ca c)) (some dd) H'
        | .stuck => False) := q
      by_cases hd : D.lows s'.mo.length s'.tg es = true
      · rw [if_pos hd] at q
        exact q W' H' dd ws l t'.wl f g n (RDs.wl hd r')
      · rw [if_neg hd] at q
        exact q.elim
  · rw [if_neg hl] at q
    exact q.elim
end
/-- from what is wanted of a def to what is wanted of its body -/
theorem run_ts {C : Cfg} {K : PySem.W.Frag} {n : Nat} {N : List Str} {body : Sx} {vs : List V} {H : Hp} {Q : VK} {E : XK} (h : spD C K (runDef n N.length body) vs H Q E) : vs.length = n ∧ tS C K (fun c d _ H => E c d H) body { nx := fun _ H' => Q .non H', rt := Q } (L2.start N vs) H := by
  obtain ⟨W, s0, ds, t, r, q⟩ := h
  unfold runDef at q
  by_cases hn : ds.length = n
  · rw [if_pos hn] at q
    refine ⟨r.length.symm.trans hn, W, _, s0, RDs.start t r, ?_⟩
    revert q
    cases body (ds.map some ++ List.replicate (N.length - ds.length) none) s0 with
    | next e' s' => exact fun q W1 σ1 H1 l1 e1 => q (W.back W1) H1 .non (l1.back t) (StS.back l1 t e1.st) rfl
    | ret d s' => exact fun q W1 v H1 l1 t1 r1 => end_ok (E := E) t l1 t1 r1 q
    | exc c vs e' s' =>
      unfold endDef
      by_cases hlow : D.lows s0.mo.length s0.tg vs = true
      · simp only [if_pos hlow]
        intro q W1 σ1 H1 dd ws l1 e1 f1 g1 n1 r1
        exact q (W.back W1) H1 dd ws (l1.back t) (StS.back l1 t e1.st) f1 g1 n1 (RDs.low (W := W1) (W' := W.back W1) (n := s0.mo.length) (t := s0.tg) rfl rfl rfl (fun _ z => z) (fun i hi => back_al l1 i (by rw [t.len]; exact hi)) (fun i hi => back_ts l1 i (by rw [t.tln]; exact hi)) vs ws hlow r1)
      · simp only [if_neg hlow]
        exact fun q => q.elim
    | brk _ _ => exact fun q => q.elim
    | cont _ _ => exact fun q => q.elim
    | stuck => exact fun q => q.elim
  · rw [if_neg hn] at q
    exact q.elim
/-- a def whose code object is known -/
structure FunC (K : PySem.W.Frag) (x qual : Str) (st : Stmt) (f : Addr) (fd : FuncData) (c : Addr) : Prop where
  ex : ∃ (oc : Value) (od : Option Addr) (kV doc pm : Value) (an : Option Addr) (ct : Value) (osl : Array (Option Value)),
    fd = PySem.W.fnOf x qual (defArgs st) (defBody st) (defScope st) .none kV doc pm an (.ref c) ct ∧ K.lookup f = some ⟨oc, od, .func fd, osl⟩ ∧ PySem.W.codeIn K (.ref c) qual = true
  kp : PySem.W.keepIn K (.ref f) = true
theorem FunC.fn {K : PySem.W.Frag} {x qual : Str} {st : Stmt} {f : Addr} {fd : FuncData} {c : Addr} (F : FunC K x qual st f fd c) : Fun K x qual st f fd := by
  obtain ⟨oc, od, kV, doc, pm, an, ct, osl, h1, h2, h3⟩ := F.ex
  exact ⟨⟨oc, od, kV, doc, pm, an, _, ct, osl, h1, h2, h3⟩, F.kp⟩
/-- THE RULE of a def that makes lambdas -/
theorem fn_defL {C : Cfg} {P : Program} {w : World} {K : PySem.W.Frag} {mg : Str → Option Value} {base : Heap} {k : Nat} {x qual : Str} {st : Stmt} {f c : Addr} {fd : FuncData} {N ps : List Str} {body : Sx} (F : FunC K x qual st f fd c) (S : FnScope N ps (defScope st))
    (hb : ∀ (A : Around) (outer : List PySem.Env) (s : Shared) (H : Hp) (E : XK), Room k (A.deeper (envOfC qual (defScope st) s.heap.objs.size f (.ref c))) →
      ∃ r : LamR, DSs (C.wl r) (cxOf (L2.CX P w) P w K mg base N qual (defScope st) f (.ref c) A outer s H E) (fun c d _ H => E c d H) (defBody st) body) : FnOk P w K mg base (L2.CX P w) (k + 1) f fd ps (spD C K (lowF (runDef ps.length N.length body))) := by
  obtain ⟨oc, od, kV, doc, pm, an, ct, osl, rfl, lk, hcd⟩ := F.ex
  refine fn_of lk hcd S (fun vs H Q E h => (run_ts (spD_wl (C := C) (r := C.lr) (r' := C.lr) h)).1) fun A outer s H vs Q E hr h => ?_
  obtain ⟨r, d⟩ := hb A outer s H E hr
  exact ⟨_, d, (run_ts (spD_wl (C := C) (r := C.lr) (r' := r) h)).2⟩

/-! ### a lambda is made -/
/-- its words; its defaults, numbers -/
structure LamT where
  params : Arguments
  body : Expr
  scope : Scope
  dn : List Int
abbrev lamFd (q : Str) (L : LamT) (cl : List (Str × Addr)) (dV pm cdv ct : Value) : FuncData :=
  { name := "<lambda>", qualname := q, params := L.params, body := .expr L.body, scope := L.scope, globals := mainGlobals, closure := cl, defaults := dV, kwdefaults := .none, doc := .none, pyModule := pm, annotations := none, code := cdv, closureTuple := ct, builtins := builtinsNs }
/-- where its defaults lie -/
def dflV (L : LamT) (T : Addr) : Value := if L.dn = [] then .none else .ref T
/-- the function object at f -/
def LamO (q : Str) (L : LamT) (cl : List (Str × Addr)) (f c' T : Addr) : HO := .ext fun h => ∃ (pm ctv : Value), h.get? f = some { cls := .type "function", data := .func (lamFd q L cl (dflV L T) pm (.ref c') ctv) }
theorem tail_of {M : Model} {A : Around} {Er : Value → Shared → Prop} {s : Shared} {q : Str} {L : LamT} {env : PySem.Env} {c P : Addr} {ps : Array Value} {pos : Pos} {l : Nat} {mg : Str → Option Value} {cl : List (Str × Addr)} {dV : Value} {Q : Value → Shared → Prop}
    (hcl : closureFor L.scope env = pure cl) (hge : env.globals = mainGlobals) (hg : s.heap.Ns mainGlobals mg) (hcode : env.code = .ref c) (hC : PySem.W.CodeHd s.heap c P) (hP : s.heap.get? P = some { cls := .none, data := .fields ps }) (ht : TriplesOk ps.toList) (hgP : mainGlobals ≠ P) (hb : s.heap.BuiltinsAt mg P)
    (new : codeAmong pos ps.toList = none → ∀ (c' : Addr) (ctv : Value) (h' : Heap) (tk : Tok), Heap.ExtBut P s.heap h' → s.heap.objs.size ≤ c' → c' < h'.objs.size → h'.CodeRec (.ref c') q → h'.get? P = some { cls := .none, data := .fields (ps ++ #[rawInt pos.line, rawInt pos.col, .ref c']) } →
      Q (.ref h'.objs.size) { s with heap := h'.push { cls := .type "function", data := .func (lamFd q L cl dV ((mg "__name__").getD .none) (.ref c') ctv) }, toks := tk })
    (old : ∀ cv, codeAmong pos ps.toList = some cv → ∀ (ctv : Value) (h' : Heap) (tk : Tok), (∀ b o, s.heap.get? b = some o → h'.get? b = some o) → s.heap.objs.size ≤ h'.objs.size →
      Q (.ref h'.objs.size) { s with heap := h'.push { cls := .type "function", data := .func (lamFd q L cl dV ((mg "__name__").getD .none) cv ctv) }, toks := tk }) :
    wpAny M A (makeTail "<lambda>" q L.params (.expr L.body) L.scope env dV .none none pos l) Q Er s := by
  obtain ⟨bm, ob, hbm, hne, _, hneP, hbo, hcls, hdict, hdata⟩ := hb
  unfold makeTail
  rw [hcl, hge]
  refine wpAny_bind (wpAny_pure ?_)
  -- ahead of the code object: the closure's tuple
  have go : ∀ (g : Heap) (ctv : Value), (∀ b o, s.heap.get? b = some o → g.get? b = some o) → s.heap.objs.size ≤ g.objs.size → wpAny M A (do
      let code ← functionCode env pos l "<lambda>" q L.params L.scope (.expr L.body)
      let builtins ← builtinsFor mainGlobals env.builtins
      let pm := (← nsGet mainGlobals "__name__").getD .none
      let doc ← (match FuncBody.expr L.body with
        | .stmts b => (match docOf b with | some s => mkText s | none => pure .none)
        | .expr _ => pure .none : Sem Value)
      newObj (.type "function") (.func { name := "<lambda>", qualname := q, params := L.params, body := .expr L.body, scope := L.scope, globals := mainGlobals, closure := cl, closureTuple := ctv, code := code, builtins := builtins, defaults := dV, kwdefaults := .none, annotations := none, pyModule := pm, doc := doc })) Q Er { s with heap := g } := fun g ctv kg sz => by
    have hg' := hg.keeps kg
    cases hf : codeAmong pos ps.toList with
    | none =>
      refine wpAny_bind (wpAny_functionCodeX hcode ((hC.keeps kg).code (kg _ _ hP) ht) ((hC.keeps kg).tab (kg _ _ hP)) hf fun c' h' tk hx hge' hlt _ hrec htb _ => ?_)
      have hg2 := hg'.extBut hx hgP
      refine wpAny_bind (wpAny_builtinsFor hg2 hbm hne (hx _ _ hneP (kg _ _ hbo)) hcls hdict hdata ?_)
      refine wpAny_bind (wpAny_nsGet hg2 ?_)
      exact wpAny_bind (wpAny_pure (wpAny_newObj_type (new hf c' ctv h' tk (fun b o hb' e => hx b o hb' (kg b o e)) (Nat.le_trans sz hge') hlt hrec htb.2) (by size_fits)))
    | some cv =>
      refine wpAny_bind (wpAny_functionCode_hit hcode ((hC.keeps kg).code (kg _ _ hP) ht) hf ?_)
      refine wpAny_bind (wpAny_builtinsFor hg' hbm hne (kg _ _ hbo) hcls hdict hdata ?_)
      refine wpAny_bind (wpAny_nsGet hg' ?_)
      exact wpAny_bind (wpAny_pure (wpAny_newObj_type (old cv hf ctv g s.toks kg sz) (by size_fits)))
  cases cl with
  | nil =>
    simp only [List.isEmpty_nil, if_true]
    exact wpAny_bind (wpAny_pure (go s.heap .none (fun _ _ e => e) (Nat.le_refl _)))
  | cons p r =>
    simp only [List.isEmpty_cons, Bool.false_eq_true, if_false]
    exact wpAny_bind (wpAny_newTextTuple (go _ _ (fun b o e => Heap.get?_push_of_some _ e) (by rw [Heap.size_push]; omega)))
theorem lamO_np {q : Str} {L : LamT} {cl : List (Str × Addr)} {f c' T : Addr} (ps : Array Value) : LamO q L cl f c' T ≠ .tbl ps := fun z => by
  unfold LamO at z
  cases z
/-- a lambda of the text at pos, its captured cells those of the frame -/
structure MakesL (X : Cx) (T : List NdefX.NTab) (c P : Addr) (nm : Nat → Nat → Str) (L : LamT) (pos : Pos) : Prop where
  tb : LamX.TabB X.base X.mg c P
  code : X.env.code = .ref c
  inT : (P, nm) ∈ T
  name : nm pos.line pos.col = X.env.qual ++ "<lambda>"
  uniq : ∀ p ∈ T, p.1 = P → p.2 = nm
  free : ∀ y ∈ L.scope.names, y.2 = .free → X.env.scope.names.lookup y.1 = some .cell ∨ X.env.scope.names.lookup y.1 = some .free
  kwo : L.params.kwonlyargs = []
  dfl : (L.dn = [] ∧ defaultsOf L.params X.env = ([], [])) ∨ ∃ (i : Int) (j : Nat) (p : Pos), L.dn = [i] ∧ defaultsOf L.params X.env = ([eval (.Constant (.int i) j p) X.env], [])
section
variable {X : Cx} {pins : List (Addr × Obj)} {σ : L2.St} {H : Hp} {s : Shared} {T : List NdefX.NTab} {c P : Addr} {nm : Nat → Nat → Str} {L : LamT} {pos : Pos}
theorem lam_fn {q : Str} {cl : List (Str × Addr)} {c' T0 : Addr} {t' : Nat} {pm ctv : Value} (I : Inv X pins σ H s) : Inv X pins σ (L2.upd H s.heap.objs.size (LamO q L cl s.heap.objs.size c' T0)) { s with heap := s.heap.push { cls := .type "function", data := .func (lamFd q L cl (dflV L T0) pm (.ref c') ctv) }, toks := t' } := by
  refine I.laid (a := s.heap.objs.size) (fun b u e => Heap.get?_push_of_some _ e) (Nat.le_refl _) ?_
  have e : (s.heap.push ({ cls := .type "function", data := .func (lamFd q L cl (dflV L T0) pm (.ref c') ctv) } : Obj)).get? s.heap.objs.size = some { cls := .type "function", data := .func (lamFd q L cl (dflV L T0) pm (.ref c') ctv) } := Heap.get?_push_size _ rfl
  exact ⟨⟨pm, ctv, e⟩, ⟨_, e⟩, fun h1 h2 ⟨pm, ct, z⟩ st => ⟨pm, ct, st _ z⟩⟩
/-- what is told of the lambda that is made -/
def Made (X : Cx) (H : Hp) (T : List NdefX.NTab) (L : LamT) (f c' T0 : Addr) (H1 : Hp) : Prop :=
  LamX.ExtN H H1 ∧ (∀ b, H1 b = none → H b = none) ∧ NdefX.TabsN T H1 ∧ H f = none ∧ H1 f = some (LamO (X.env.qual ++ "<lambda>") L (cloFrom X.env.cells L.scope.names []) f c' T0) ∧ H1 c' = some (LamX.CodeO c' (X.env.qual ++ "<lambda>")) ∧
    (H c' = none ∨ ∃ (ps : Array Value) (pos : Pos), ∃ p ∈ T, H p.1 = some (.tbl ps) ∧ codeAmong pos ps.toList = some (.ref c')) ∧
    (∀ p ∈ T, ∀ ps, H1 p.1 = some (.tbl ps) → ∀ (pos : Pos) (cc : Addr), codeAmong pos ps.toList = some (.ref cc) → cc = c' ∨ ∃ ps0, H p.1 = some (.tbl ps0) ∧ codeAmong pos ps0.toList = some (.ref cc))
theorem lam_body {Er : Value → Shared → Prop} {Q : Value → Shared → Prop} {T0 : Addr} (I : Inv X pins σ H s) (M : MakesL X T c P nm L pos) (hT : NdefX.TabsN T H)
    (go : ∀ (f c' : Addr) (H1 : Hp) (s' : Shared), Inv X pins σ H1 s' → Made X H T L f c' T0 H1 → Q (.ref f) s') :
    wpAny (model X.prog X.w) X.A (makeTail "<lambda>" (X.env.qual ++ "<lambda>") L.params (.expr L.body) L.scope X.env (dflV L T0) .none none pos pos.line) Q Er s := by
  obtain ⟨ps, hP, ht, ha⟩ := (show NdefX.TabN H P nm from hT _ M.inT)
  have bP : s.heap.BuiltinsAt X.mg P := M.tb.bm.keeps I.bk
  have hP' : s.heap.get? P = some { cls := .none, data := .fields ps } := I.hok P _ hP
  have hfr : ∀ y ∈ L.scope.names, y.2 = .free → ∃ c, X.env.cells.lookup y.1 = some c := fun y hy e => (M.free y hy e).elim (fun z => I.ok.has _ (.inl z)) fun z => I.ok.has _ (.inr z)
  refine tail_of (mg := X.mg) (c := c) (P := P) (ps := ps) (closure_ok hfr) I.ok.glob (I.mod.glob.keeps I.bk) M.code (M.tb.code.keeps I.bk) hP' ht M.tb.gP bP (fun hf c' ctv h' tk hx hge hlt hrec htb => ?_) (fun cv hf ctv h' tk hx hsz => ?_)
  · obtain ⟨c2, oc, vs, t, e2, hoc, hd, hv⟩ := hrec
    cases e2
    have nC : H c' = none := I.hok.fresh hge
    have I1 := LamX.inv_table (t' := tk) (more := #[rawInt pos.line, rawInt pos.col, .ref c']) (h' := h') (q := X.env.qual ++ "<lambda>") I hP (fun b o hb e => hx b o hb e) htb hge ⟨oc, vs, t, hoc, hd, hv⟩
    have hE : LamX.ExtN H (L2.upd (L2.upd H P (.tbl (ps ++ #[rawInt pos.line, rawInt pos.col, .ref c']))) c' (LamX.CodeO c' (X.env.qual ++ "<lambda>"))) := fun b o e n => by
      rw [upd_ne (ne_of_none e nC), upd_ne (fun z => n ps (Option.some.inj (e.symm.trans (by rw [z]; exact hP))))]
      exact e
    have eL : (ps ++ #[rawInt pos.line, rawInt pos.col, .ref c']).toList = ps.toList ++ [rawInt pos.line, rawInt pos.col, .ref c'] := by simp
    have atP : (L2.upd (L2.upd H P (.tbl (ps ++ #[rawInt pos.line, rawInt pos.col, .ref c']))) c' (LamX.CodeO c' (X.env.qual ++ "<lambda>"))) P = some (.tbl (ps ++ #[rawInt pos.line, rawInt pos.col, .ref c'])) := by rw [upd_ne (ne_of_none hP nC), upd_same]
    have T1 : NdefX.TabsN T (L2.upd (L2.upd H P (.tbl (ps ++ #[rawInt pos.line, rawInt pos.col, .ref c']))) c' (LamX.CodeO c' (X.env.qual ++ "<lambda>"))) := fun p hp => by
      by_cases hb : p.1 = P
      · rw [M.uniq p hp hb, hb]
        refine ⟨_, atP, by rw [eL]; exact PySem.TriplesOk_snoc _ _ _ _ ht, fun p' cv hcv => ?_⟩
        rw [eL] at hcv
        rcases NdefX.among_app2 _ ht hcv with z | ⟨z, z1, z2⟩
        · obtain ⟨c0, e1, e2⟩ := ha p' cv z
          exact ⟨c0, e1, hE _ _ e2 LamX.codeO_ne⟩
        · refine ⟨c', z, ?_⟩
          rw [← z1, ← z2, M.name]
          exact upd_same
      · obtain ⟨ps', a1, a2, a3⟩ := hT p hp
        refine ⟨ps', by rw [upd_ne (ne_of_none a1 nC), upd_ne hb]; exact a1, a2, fun p' cv hcv => ?_⟩
        obtain ⟨c0, e1, e2⟩ := a3 p' cv hcv
        exact ⟨c0, e1, hE _ _ e2 LamX.codeO_ne⟩
    have nF := I1.hok.fresh (Nat.le_refl _)
    have I2 := lam_fn (L := L) (q := X.env.qual ++ "<lambda>") (cl := cloFrom X.env.cells L.scope.names []) (c' := c') (T0 := T0) (t' := tk) (pm := (X.mg "__name__").getD .none) (ctv := ctv) I1
    refine go _ c' _ _ I2 ⟨fun b o e n => ?_, fun b e => NdefX.upd_none (NdefX.upd_none (NdefX.upd_none e)), T1.ext fun b o e => (upd_ne (ne_of_none e nF)).trans e, I.hok.fresh (Nat.le_trans hge (Nat.le_of_lt hlt)), upd_same, (upd_ne (Nat.ne_of_lt hlt)).trans upd_same, .inl nC, fun p hp qs e p' cc hcc => ?_⟩
    · have e1 := hE b o e n
      exact (upd_ne (ne_of_none e1 nF)).trans e1
    · have e1 : (L2.upd (L2.upd H P (.tbl (ps ++ #[rawInt pos.line, rawInt pos.col, .ref c']))) c' (LamX.CodeO c' (X.env.qual ++ "<lambda>"))) p.1 = some (.tbl qs) := by
        obtain ⟨qs0, a1, _⟩ := T1 p hp
        rw [upd_ne (ne_of_none a1 nF)] at e
        exact e
      by_cases hb : p.1 = P
      · rw [hb, atP] at e1
        cases e1
        rw [eL] at hcc
        rcases NdefX.among_app2 _ ht hcc with z | ⟨z, _, _⟩
        · exact .inr ⟨ps, by rw [hb]; exact hP, z⟩
        · cases z
          exact .inl rfl
      · obtain ⟨ps', a1, _⟩ := hT p hp
        rw [upd_ne (ne_of_none a1 nC), upd_ne hb] at e1
        exact .inr ⟨qs, e1, hcc⟩
  · obtain ⟨c', e, hco⟩ := ha pos cv hf
    subst e
    rw [M.name] at hco
    have I1 : Inv X pins σ H { s with heap := h', toks := tk } := I.kept hx
    have nF : H h'.objs.size = none := I1.hok.fresh (Nat.le_refl _)
    have I2 := lam_fn (L := L) (q := X.env.qual ++ "<lambda>") (cl := cloFrom X.env.cells L.scope.names []) (c' := c') (T0 := T0) (t' := tk) (pm := (X.mg "__name__").getD .none) (ctv := ctv) I1
    refine go _ c' _ _ I2 ⟨fun b o e n => (upd_ne (ne_of_none e nF)).trans e, fun b e => NdefX.upd_none e, hT.ext fun b o e => (upd_ne (ne_of_none e nF)).trans e, nF, upd_same, (upd_ne (ne_of_none hco nF)).trans hco, .inr ⟨ps, pos, _, M.inT, hP, hf⟩, fun p hp qs e p' cc hcc => ?_⟩
    obtain ⟨qs0, a1, _⟩ := hT p hp
    rw [upd_ne (ne_of_none a1 nF)] at e
    exact .inr ⟨qs, e, hcc⟩
/-- lambda ..: .. -/
theorem lam_eval {Er : Value → Shared → Prop} {Q : Value → Shared → Prop} (I : Inv X pins σ H s) (M : MakesL X T c P nm L pos) (hT : NdefX.TabsN T H)
    (go : ∀ (f c' T0 : Addr) (H0 H1 : Hp) (s' : Shared), Inv X pins σ H1 s' → (L.dn = [] ∧ H0 = H ∨ H T0 = none ∧ H0 = L2.upd H T0 (.tup (L.dn.map V.int))) → Made X H0 T L f c' T0 H1 → Q (.ref f) s') :
    wpAny (model X.prog X.w) X.A (eval (.Lambda L.params L.body L.scope pos) X.env) Q Er s := by
  rw [arm_eval_Lambda]
  rcases M.dfl with ⟨d0, hd⟩ | ⟨i, j, p, d1, hd⟩
  · rw [hd]
    show wpAny _ _ (do let dv ← evalAll []; let kdv ← holding dv (evalAllOpt []); makeFunction "<lambda>" (X.env.qual ++ "<lambda>") L.params (.expr L.body) L.scope X.env dv kdv [] pos pos.line) Q Er s
    refine wpAny_bind (wpAny_pure (wpAny_bind (wpAny_holding (wpAny_pure ?_))))
    rw [makeFunction_eq]
    simp only [List.zip_nil_right, List.filterMap_nil, List.isEmpty_nil, if_true, pure_bind]
    have ed : dflV L 0 = .none := by unfold dflV; rw [if_pos d0]
    have z := lam_body (T0 := 0) (Er := Er) (Q := Q) I M hT fun f c' H1 s' J m => go f c' 0 H H1 s' J (.inl ⟨d0, rfl⟩) m
    rw [ed] at z
    exact z
  · rw [hd]
    show wpAny _ _ (do let dv ← evalAll [eval (.Constant (.int i) j p) X.env]; let kdv ← holding dv (evalAllOpt []); makeFunction "<lambda>" (X.env.qual ++ "<lambda>") L.params (.expr L.body) L.scope X.env dv kdv [] pos pos.line) Q Er s
    refine wpAny_bind (wpAny_bind (wpAny_Constant_int ?_))
    refine wpAny_bind (wpAny_holding (wpAny_pure (wpAny_pure ?_)))
    refine wpAny_bind (wpAny_holding (wpAny_pure ?_))
    rw [makeFunction_eq]
    simp only [List.zip_nil_right, List.filterMap_nil, List.isEmpty_nil, List.isEmpty_cons, Bool.false_eq_true, if_false, if_true, pure_bind]
    refine wpAny_bind (wpAny_newTextTuple ?_)
    have J0 : Inv X pins σ H { s with toks := s.toks + 1 } := I.tok _
    have nT : H s.heap.objs.size = none := I.hok.fresh (Nat.le_refl _)
    have J1 : Inv X pins σ (L2.upd H s.heap.objs.size (.tup (L.dn.map V.int))) { s with heap := s.heap.push { cls := .type "tuple", data := .seq ([Value.int i s.toks] : List Value).toArray }, toks := s.toks + 1 } := by
      refine J0.laid (a := s.heap.objs.size) (t' := s.toks + 1) (fun b u e => Heap.get?_push_of_some _ e) (Nat.le_refl _) ?_
      rw [d1]
      exact ⟨by show 1 ≤ sizeLine; decide, [Value.int i s.toks], .cons ⟨_, rfl⟩ .nil, ⟨_, Heap.get?_push_size _ rfl, rfl, _, rfl⟩⟩
    have ed : dflV L s.heap.objs.size = .ref s.heap.objs.size := by unfold dflV; rw [if_neg (by rw [d1]; simp)]
    have z := lam_body (T0 := s.heap.objs.size) (Er := Er) (Q := Q) J1 M (hT.ext fun b o e => (upd_ne (ne_of_none e nT)).trans e) fun f c' H1 s' J m => go f c' _ _ H1 s' J (.inr ⟨nT, rfl⟩) m
    rw [ed] at z
    exact z
end

/-! ### over data: a lambda as a value of the frame that made it -/
/-- what a frame's lambda is: tab tells their words -/
def lrOf (X : Cx) (tab : Nat → Option LamT) : LamR where
  r i a W H := ∃ (L : LamT) (c' T0 : Addr), tab i = some L ∧ W.F a ∧ H a = some (LamO (X.env.qual ++ "<lambda>") L (cloFrom X.env.cells L.scope.names []) a c' T0) ∧ W.F c' ∧ H c' = some (LamX.CodeO c' (X.env.qual ++ "<lambda>")) ∧ (L.dn = [] ∨ (W.F T0 ∧ H T0 = some (.tup (L.dn.map V.int))))
  st i a W H W' H' l h := by
    obtain ⟨L, c', T0, h1, h2, h3, h4, h5, h6⟩ := h
    exact ⟨L, c', T0, h1, l.fz _ h2, l.at_ _ _ h2 h3, l.fz _ h4, l.at_ _ _ h4 h5, h6.imp id fun ⟨a, b⟩ => ⟨l.fz _ a, l.at_ _ _ a b⟩⟩
def xLam (i : Nat) : Ex := fun _ s => .ok (.lam i []) s
section
variable {C : Cfg} {X : Cx} {Wx : WX} {c P : Addr} {nm : Nat → Nat → Str} {L : LamT} {pos : Pos} {tab : Nat → Option LamT} {i : Nat}
theorem de_lam (M : MakesL X C.T c P nm L pos) (ht : tab i = some L) : DE (C.wl (lrOf X tab)) X Wx (.Lambda L.params L.body L.scope pos) (xLam i) := ⟨fun pins sh σ H Q I h => by
  obtain ⟨W, env, s, e, q⟩ := h
  have t := e.st
  refine lam_eval I M t.tb.1 fun f c' T0 H0 H1 sh' J hT0 made => ⟨.ref f, H1, J, rfl, ?_⟩
  obtain ⟨ex, nn, tn, f0, f1, c1, cOld, cTab⟩ := made
  have up0 : ∀ a o, H a = some o → H0 a = some o := fun a o h => by
    rcases hT0 with ⟨_, rfl⟩ | ⟨nT, rfl⟩
    · exact h
    · exact (upd_ne (ne_of_none h nT)).trans h
  have dn0 : ∀ a, H0 a = none → H a = none := fun a h => by
    rcases hT0 with ⟨_, rfl⟩ | ⟨nT, rfl⟩
    · exact h
    · exact NdefX.upd_none h
  have tb0 : ∀ {a : Addr} {ps : Array Value}, H0 a = some (.tbl ps) → H a = some (.tbl ps) := fun {a ps} h => by
    rcases hT0 with ⟨_, rfl⟩ | ⟨nT, rfl⟩
    · exact h
    · by_cases z : a = T0
      · rw [z, upd_same] at h
        cases h
      · rw [upd_ne z] at h
        exact h
  have keep : ∀ a o, H a = some o → ntb o → H1 a = some o := fun a o h n => ex a o (up0 a o h) n
  have cF : H c' = none ∨ W.F c' := by
    rcases cOld with h | ⟨ps, p, tp, hp, e1, e2⟩
    · exact .inl (dn0 _ h)
    · exact .inr (t.tb.2 tp hp ps (tb0 e1) p c' e2)
  have hTn : L.dn ≠ [] → H T0 = none ∧ H1 T0 = some (.tup (L.dn.map V.int)) := fun hd => by
    rcases hT0 with ⟨z, _⟩ | ⟨nT, rfl⟩
    · exact absurd z hd
    · exact ⟨nT, ex T0 _ upd_same fun _ z => nomatch z⟩
  let W' : Wd := ⟨fun a => W.F a ∨ a = f ∨ a = c' ∨ (L.dn ≠ [] ∧ a = T0), W.al, W.ts⟩
  have l : Le W H s W' H1 s := ⟨fun _ h => .inl h, fun _ _ h => h, fun _ _ h => h, fun a o h n _ => keep a o h n, fun a h z => h (dn0 _ (nn _ z)), fun _ h => h, (fun j a hj h => by
    have h : W.al[j]? = some a := h
    rw [List.getElem?_eq_none hj] at h
    cases h), fun a h => by
      rcases h with h | rfl | rfl | ⟨hd, rfl⟩
      · exact .inl h
      · exact .inr (.inl (dn0 _ f0))
      · exact cF.elim (fun z => .inr (.inl z)) .inl
      · exact .inr (.inl (hTn hd).1)⟩
  have fresh_dead : ∀ a, H a = none → ∀ j : Nat, W.al[j]? = some a → s.mo[j]? = some .dead := fun a h j hj => absurd h (t.alh a (List.mem_of_getElem? hj))
  have t' : StS (C.wl (lrOf X tab)) X.K W' H1 s := by
    refine ⟨t.len, t.tln, t.nod, fun j o a h1 h2 => ?_, fun a h => ?_, fun a ha => l.dom a (t.alh a ha), tn, fun p hp ps e1 p' cc hcc => ?_⟩
    · have m := t.mo j o a h1 h2
      by_cases hd : o = .dead
      · rw [hd]
        exact trivial
      · exact mok_later l t (fun u hu => keep a u hu (mok_plain hd m u hu).1) m
    · rcases h with h | rfl | rfl | ⟨hd, rfl⟩
      · obtain ⟨g1, g2, g3⟩ := t.fz a h
        refine ⟨l.dom a g1, fun o ho => ?_, g3⟩
        cases ha : H a with
        | none => exact absurd ha g1
        | some o0 =>
          have e2 := keep a o0 ha (g2 o0 ha)
          rw [ho] at e2
          cases e2
          exact g2 _ ha
      · exact ⟨by rw [f1]; exact Option.some_ne_none _, fun o ho => by rw [f1] at ho; cases ho; exact lamO_np, fresh_dead _ (dn0 _ f0)⟩
      · refine ⟨by rw [c1]; exact Option.some_ne_none _, fun o ho => by rw [c1] at ho; cases ho; exact LamX.codeO_ne, ?_⟩
        rcases cF with z | z
        · exact fresh_dead _ z
        · exact (t.fz _ z).2.2
      · obtain ⟨z1, z2⟩ := hTn hd
        exact ⟨by rw [z2]; exact Option.some_ne_none _, fun o ho => by rw [z2] at ho; cases ho; exact (fun _ z => nomatch z), fresh_dead _ z1⟩
    · rcases cTab p hp ps e1 p' cc hcc with rfl | ⟨ps0, g1, g2⟩
      · exact .inr (.inr (.inl rfl))
      · exact .inl (t.tb.2 p hp ps0 (tb0 g1) p' cc g2)
  have q : Res (C.wl (lrOf X tab)) X.K (fun W H => RD (C.wl (lrOf X tab)) X.K W H) Wx σ env W H s (.ok (.lam i []) s) Q := q
  refine q.ok' l (e.later l t') ⟨rfl, f, rfl, L, c', T0, ht, .inr (.inl rfl), f1, .inr (.inr (.inl rfl)), c1, ?_⟩
  by_cases hd : L.dn = []
  · exact .inl hd
  · exact .inr ⟨.inr (.inr (.inr ⟨hd, rfl⟩)), (hTn hd).2⟩⟩
end
end DV
end
section
set_option Elab.async false
set_option linter.all false
set_option maxRecDepth 100000
set_option maxHeartbeats 2000000
/-! DI2: a lambda called in the def that got it. -/
namespace DV
open PySem PySem.Spec PyProof.Rows L2

/-- its names: parameters (with defaults) and captured ones; ks: the slots of the maker's names that the parameters hide -/
structure LamS (X : Cx) (L : LamT) (ks : List Nat) (pn : Str) : Prop where
  kind : L.scope.kind = .function
  co : L.scope.isCoroutine = false
  gen : L.scope.isGenerator = false
  nocell : ∀ y ∈ L.scope.names, y.2 ≠ .cell
  free : ∀ y ∈ L.scope.names, y.2 = .free → X.env.scope.names.lookup y.1 = some .cell ∨ X.env.scope.names.lookup y.1 = some .free
  hide : ∀ i x, X.N[i]? = some x → L.scope.names.lookup x = some .local → i ∈ ks
  b0 : L.dn = [] → ∀ (q : Str) (cl : List (Str × Addr)) (pm cdv ct : Value), bindArgs (lamFd q L cl .none pm cdv ct) ⟨[], []⟩ = pure []
  b1 : ∀ i, L.dn = [i] → L.scope.names.lookup pn = some .local ∧ ∀ (q : Str) (cl : List (Str × Addr)) (T : Addr) (pm cdv ct : Value), ∃ k : Option (Array Value) → Sem (List (Str × Value)), bindArgs (lamFd q L cl (.ref T) pm cdv ct) ⟨[], []⟩ = seqItems? (.ref T) >>= k ∧ ∀ v, k (some #[v]) = pure [(pn, v)]
  dn : L.dn = [] ∨ ∃ i, L.dn = [i]
theorem wipe_len {σ : L2.St} : ∀ vs : List Nat, (wipe σ vs).length = σ.length
  | [] => rfl
  | v :: vs => by
    show ((wipe σ vs).set v none).length = σ.length
    rw [List.length_set, wipe_len vs]
theorem wipe_in {σ : L2.St} {i : Nat} {v : V} : ∀ {vs : List Nat}, (wipe σ vs)[i]? = some (some v) → i ∉ vs ∧ σ[i]? = some (some v)
  | [], h => ⟨by simp, h⟩
  | u :: vs, h => by
    have h : ((wipe σ vs).set u none)[i]? = some (some v) := h
    by_cases e : u = i
    · subst e
      by_cases hl : u < (wipe σ vs).length
      · rw [List.getElem?_set_self hl] at h
        cases h
      · rw [List.getElem?_eq_none (by rw [List.length_set]; omega)] at h
        cases h
    · rw [List.getElem?_set_ne e] at h
      obtain ⟨h1, h2⟩ := wipe_in h
      exact ⟨fun z => (List.mem_cons.mp z).elim (fun z => e z.symm) h1, h2⟩
theorem wipeE_len {env : Env} : ∀ vs : List Nat, (wipeE env vs).length = env.length
  | [] => rfl
  | v :: vs => by
    show ((wipeE env vs).set v none).length = env.length
    rw [List.length_set, wipeE_len vs]
theorem wipeE_both {C : Cfg} {K : PySem.W.Frag} {W : Wd} {H : Hp} {σ : L2.St} {env : Env} (hl : σ.length = env.length) (h : ∀ (j : Nat) (d : D), env[j]? = some (some d) → ∃ v, σ[j]? = some (some v) ∧ RD C K W H d v) : ∀ vs : List Nat, ∀ (j : Nat) (d : D), (wipeE env vs)[j]? = some (some d) → ∃ v, (wipe σ vs)[j]? = some (some v) ∧ RD C K W H d v
  | [] => h
  | u :: vs => fun j d hj => by
    have hj : ((wipeE env vs).set u none)[j]? = some (some d) := hj
    show ∃ v, ((wipe σ vs).set u none)[j]? = some (some v) ∧ _
    by_cases e : u = j
    · subst e
      by_cases hb : u < (wipeE env vs).length
      · rw [List.getElem?_set_self hb] at hj
        cases hj
      · rw [List.getElem?_eq_none (by rw [List.length_set]; omega)] at hj
        cases hj
    · rw [List.getElem?_set_ne e] at hj ⊢
      exact wipeE_both hl h vs j d hj
section
variable {X : Cx} {pins : List (Addr × Obj)} {σ : L2.St} {H HZ : Hp} {s sZ : Shared} {L : LamT} {ks : List Nat} {pn : Str}
/-- the lambda's frame starts with what the maker's names hold -/
theorem lam_enter {A : Around} {outer : List PySem.Env} {E : XK} {f c' : Addr} {g : Heap} {tk : Nat} {bs : List (Str × Value)} (I : Inv X pins σ H s) (S : LamS X L ks pn) (e0 : Env0 X.prog X.w X.K X.mg X.base A outer sZ HZ) (hd : A.handled = none)
    (un : Un (frs X.stack) [] H HZ s.heap sZ.heap) (hns : g.Ns sZ.heap.objs.size fun y => bs.reverse.lookup y) (kp : ∀ b o, sZ.heap.get? b = some o → g.get? b = some o) :
    Inv (LamX.lamCx X A outer sZ HZ E L.scope f c') [] (wipe σ ks) HZ { sZ with heap := g, toks := tk } := by
  have has : ∀ y ∈ L.scope.names, y.2 = .free → ∃ c, X.env.cells.lookup y.1 = some c := fun y hy e => (S.free y hy e).elim (fun z => I.ok.has _ (.inl z)) fun z => I.ok.has _ (.inr z)
  have back : ∀ {y c}, (cloFrom X.env.cells L.scope.names []).lookup y = some c → X.env.cells.lookup y = some c := fun {y c} e => NdefX.clo_cm has e
  have fwd : ∀ {y}, L.scope.names.lookup y = some .free → ∃ c, (cloFrom X.env.cells L.scope.names []).lookup y = some c := fun {y} h => mem_lookup (cloFrom_has (cells := X.env.cells) (acc := []) (PySem.mem_of_lookup h))
  have stay : ∀ {c : Addr} {v : Option Value}, H c = none → s.heap.IsCell c v → g.IsCell c v := fun {c v} n ⟨o, ho, hdat⟩ => by
    obtain ⟨sl, q⟩ := un.any ho n (by simp)
    exact ⟨_, kp _ _ q, hdat⟩
  have none_ex : ∀ b : Addr, b ∉ (LamX.lamCx X A outer sZ HZ E L.scope f c').ex := fun b z => absurd (show b ∈ ([] : List Addr) from z) (by simp)
  refine ⟨⟨e0.mod, S.kind, rfl, rfl, Nat.le_refl _, fun y z c e1 e2 => I.ok.inj y z c (back e1) (back e2), fun y hy => ?_, fun y c z _ => ?_, fun _ => hd, Around.frames_deeper e0.frames, .inr ⟨rfl, rfl⟩, fun b z => absurd z (none_ex b), e0.bs, e0.bsz, fun b _ _ => none_ex b,
      fun b z => absurd z (none_ex b), e0.funs, e0.frf⟩,
    rfl, e0.bare, Un.kept kp, ⟨_, hns, fun i y v e1 e2 e3 => ?_⟩, fun y c e => ?_, e0.hok.fresh (Nat.le_refl _), fun y c e => ?_, fun q hq => absurd (show q ∈ ([] : List (Addr × Obj)) ++ [] from hq) (by simp), e0.hok.kept kp, (wipe_len ks).trans I.len⟩
  · have hy : L.scope.names.lookup y = some .cell ∨ L.scope.names.lookup y = some .free := hy
    exact hy.elim (fun z => absurd rfl (S.nocell _ (PySem.mem_of_lookup z))) fwd
  · have z : false = true := z
    cases z
  · obtain ⟨hk, e2⟩ := wipe_in e2
    have e3 : Vis L.scope y := e3
    rcases e3 with k | k | k
    · exact absurd (S.hide i y e1 k) hk
    · exact absurd rfl (S.nocell _ (PySem.mem_of_lookup k))
    · obtain ⟨m, hn, hl⟩ := I.loc
      have kin := S.free _ (PySem.mem_of_lookup k) rfl
      obtain ⟨u, r, q⟩ := hl i y v e1 e2 (kin.elim (fun k => .inr (.inl k)) fun k => .inr (.inr k))
      obtain ⟨c2, h2⟩ := fwd k
      refine ⟨u, r, .inr ⟨.inr k, c2, h2, ?_⟩⟩
      have c1 := back h2
      rcases q with ⟨k1, _⟩ | ⟨_, c3, e4, z⟩
      · have k1 : X.env.scope.names.lookup y = some .local := k1
        rcases kin with k2 | k2 <;> rw [show X.env.scope.names.lookup y = _ from k2] at k1 <;> cases k1
      · rw [c1] at e4
        cases e4
        exact stay (I.freeC y _ c1) z
  · obtain ⟨u, z⟩ := I.cell y c (back e)
    exact ⟨u, stay (I.freeC y c (back e)) z⟩
  · obtain ⟨v, o, ho, _⟩ := I.cell y c (back e)
    exact un.free c o ho (I.freeC y c (back e)) (by simp)
end

/-! ### over data -/
/-- what the got lambda means in the def that calls it: the maker's names as they stand -/
def actR (C' : Cfg) (K : PySem.W.Frag) (σ : L2.St) (env : Env) (f : Addr) (i : Nat) : LamR where
  r i' a W H := i' = i ∧ a = f ∧ C'.lr.r i f W H ∧ ∀ (j : Nat) (d : D), env[j]? = some (some d) → ∃ v, σ[j]? = some (some v) ∧ RD C' K W H d v
  st i' a W H W' H' l h := ⟨h.1, h.2.1, C'.lr.st _ _ _ _ _ _ l h.2.2.1, fun j d hj => let ⟨v, z, r⟩ := h.2.2.2 j d hj; ⟨v, z, r.lf l⟩⟩
def xAct (j i : Nat) (q : S → Out D) : Ex := fun e s => match e[j]? with
  | some (some (.lam i' [])) => if i' = i then q s else .stuck
  | _ => .stuck
section
variable {C : Cfg} {X : Cx} {pins : List (Addr × Obj)} {σ : L2.St} {H : Hp} {s : Shared} {env : Env} {tab : Nat → Option LamT} {L : LamT} {ks : List Nat} {pn : Str} {f : Addr} {i : Nat}
theorem de_act {Ng : List Str} {qg a : Str} {sg : Scope} {g : Addr} {cdg : Value} {Eg : XK} {k j : Nat} {fb : Ex} {pnz : List (Addr × Obj)} {xe : Value → Shared → Prop} {Wz : WX} {p1 p2 : Pos}
    (I : Inv X pins σ H s) (hl : σ.length = env.length) (ht : tab i = some L) (S : LamS X L ks pn) (tk : Takes ((cxOf (L2.CX X.prog X.w) X.prog X.w X.K X.mg X.base Ng qg sg g cdg X.A X.stack s H Eg).tr pnz xe) Wz)
    (hr : Room (k + 1) (X.A.deeper (envOfC qg sg s.heap.objs.size g cdg)))
    (hbody : ∀ (A : Around) (outer : List PySem.Env) (s : Shared) (H : Hp) (E : XK) (f c' : Addr), Room k (A.deeper (LamX.lamEnv X L.scope s.heap.objs.size f c')) → DE (C.wl (lrOf X tab)) (LamX.lamCx X A outer s H E L.scope f c') (fun c d _ H => E c d H) L.body fb)
    (hN : Ng[j]? = some a) (hv : Vis sg a) (hd : (a == ("__debug__" : Str)) = false := by decide) (hcd : (a == ("__classdict__" : Str)) = false := by decide) :
    DE (C.wl (actR (C.wl (lrOf X tab)) X.K σ env f i)) ((cxOf (L2.CX X.prog X.w) X.prog X.w X.K X.mg X.base Ng qg sg g cdg X.A X.stack s H Eg).tr pnz xe) Wz (.Call (.Name a p1) [] [] p2) (xAct j i fun s => lowO (fb (wipeE env ks) s)) := by
  refine ⟨fun pinsZ sZ σZ HZ QZ IZ h => ?_⟩
  obtain ⟨WZ, envZ, stZ, eZ, qZ⟩ := h
  unfold xAct at qZ
  split at qZ
  rotate_left
  · exact qZ.elim
  rename_i i' hslot
  split at qZ
  rotate_left
  · exact qZ.elim
  rename_i hi
  subst hi
  obtain ⟨v, hv1, hv2⟩ := eZ.sv j _ hslot
  obtain ⟨_, fz, rfl, _, rfl, ⟨L', c', T0, hL, F1, F2, F3, F4, F5⟩, vals⟩ := hv2
  rw [ht] at hL
  cases hL
  refine wpAny_Call_Name_kw (thn ((pe_var (pos := p1) (i := j) hN hv hd hcd).run pinsZ sZ σZ HZ (fun v H1 => v = .ref fz ∧ H1 = HZ) IZ ⟨.ref fz, hv1, rfl, rfl⟩) fun u s1 ⟨v, H1, I1, r1, q1⟩ => ?_)
  obtain ⟨ev, eH⟩ := q1
  subst ev
  rw [eH] at I1
  obtain rfl : u = Value.ref fz := r1
  obtain ⟨⟨pm, ctv, of1⟩, _, _⟩ := I1.hok fz _ F2
  refine PySem.W.callWith_F0 ⟨_, _, _, _, of1⟩ ?_
  have un : Un (frs X.stack) [] H HZ s.heap s1.heap := I1.base
  obtain ⟨⟨oc, vs, t, hoc, hdc, hvc⟩, _, _⟩ := I1.hok c' _ F4
  -- what the body is asked
  have ask : tD (C.wl (lrOf X tab)) X.K (fun c d _ H => WE Wz σZ c d H) fb (wipe σ ks) HZ QZ := by
    refine ⟨WZ, wipeE env ks, stZ, ⟨eZ.st.wl, by rw [wipe_len, wipeE_len]; exact hl, wipeE_both hl vals ks⟩, ?_⟩
    have qZ : Res (C.wl (actR (C.wl (lrOf X tab)) X.K σ env fz i')) X.K (fun W H => RD (C.wl (actR (C.wl (lrOf X tab)) X.K σ env fz i')) X.K W H) Wz σZ envZ WZ HZ stZ (lowO (fb (wipeE env ks) stZ)) QZ := qZ
    generalize fb (wipeE env ks) stZ = oZ at qZ ⊢
    revert qZ
    cases oZ with
    | stuck => exact fun q => False.elim q
    | ok d s' =>
      intro q W' H' b l e r
      have q : Res _ X.K (fun W H => RD _ X.K W H) Wz σZ envZ WZ HZ stZ (if d.low s'.mo.length s'.tg = true then Out.ok d s' else .stuck) QZ := q
      by_cases hlow : d.low s'.mo.length s'.tg = true
      · rw [if_pos hlow] at q
        exact q W' H' b l (eZ.later l e.st.wl) (RD.wl hlow r)
      · rw [if_neg hlow] at q
        exact q.elim
    | exc c es s' =>
      intro q W' H' dd ws l e fr g1 n r
      have q : Res _ X.K (fun W H => RD _ X.K W H) Wz σZ envZ WZ HZ stZ (if D.lows s'.mo.length s'.tg es = true then Out.exc c es s' else .stuck) QZ := q
      by_cases hlow : D.lows s'.mo.length s'.tg es = true
      · rw [if_pos hlow] at q
        exact q W' H' dd ws l (eZ.later l e.st.wl) fr g1 n (RDs.wl hlow r)
      · rw [if_neg hlow] at q
        exact q.elim
  have enter : ∀ bs : List (Str × Value), (∀ y ∈ bs, L.scope.names.lookup y.1 = some .local) → wpAny (model X.prog X.w) (X.A.deeper (envOfC qg sg s.heap.objs.size g cdg)).in1 (newFunctionEnv L.scope mainGlobals (cloFrom X.env.cells L.scope.names []) bs (X.env.qual ++ "<lambda>" ++ ".<locals>.") (some fz) (.ref c') none builtinsNs)
      (fun en s₂ => s₂.heap.NoLimit ∧ codeAny (model X.prog X.w) (X.A.deeper (envOfC qg sg s.heap.objs.size g cdg)) (.expr L.body en) (CR (L2.CX X.prog X.w) (envOfC qg sg s.heap.objs.size g cdg :: X.stack) X.prog X.w HZ s1 QZ (WE Wz σZ)) s₂)
      (fun e s' => CR (L2.CX X.prog X.w) (envOfC qg sg s.heap.objs.size g cdg :: X.stack) X.prog X.w HZ s1 QZ (WE Wz σZ) (.error e) s') s1 := fun bs hloc => by
    refine wpAny_newFunctionEnv (fun y hy => S.nocell y hy) hloc (fun h₁ hns hsb => ⟨I1.nolimit.fresh _ hsb, ?_⟩) S.kind
    show codeAny _ _ (.expr L.body (LamX.lamEnv X L.scope s1.heap.objs.size fz c')) _ _
    have kp : ∀ b o, s1.heap.get? b = some o → h₁.get? b = some o := fun b o e => hsb.extBut b o (Nat.ne_of_lt (Heap.lt_size e)) (Heap.get?_push_of_some _ e)
    have J : Inv (LamX.lamCx X (X.A.deeper (envOfC qg sg s.heap.objs.size g cdg)) (envOfC qg sg s.heap.objs.size g cdg :: X.stack) s1 HZ (WE Wz σZ) L.scope fz c') [] (wipe σ ks) HZ { s1 with heap := h₁, toks := s1.toks + bs.length } := lam_enter I S I1.env0 hr.hd un hns kp
    refine PySem.W.kla_codeExpr (wpAny_mono ((hbody _ _ s1 HZ (WE Wz σZ) fz c' (hr.deeper _)).run [] _ _ HZ QZ J ask) (fun v s' hq => ?_) fun e s' hq => hq)
    obtain ⟨w', H', J', rv, q⟩ := hq
    exact ⟨w', H', J'.os, J'.bare, J'.base, J'.hok, rv, q⟩
  have rc : codeAny (model X.prog X.w) (X.A.deeper (envOfC qg sg s.heap.objs.size g cdg)) (.call (.ref fz) ⟨[], []⟩) (CR (L2.CX X.prog X.w) (envOfC qg sg s.heap.objs.size g cdg :: X.stack) X.prog X.w HZ s1 QZ (WE Wz σZ)) s1 := by
    refine PySem.W.kla_callFunE hr.depth of1 rfl S.co S.gen rfl ⟨c', oc, vs, t, rfl, hoc, hdc, hvc⟩ ?_
    rcases S.dn with d0 | ⟨n, d1⟩
    · have ed : dflV L T0 = .none := by unfold dflV; rw [if_pos d0]
      rw [ed]
      show wpAny _ _ (bindArgs (lamFd (X.env.qual ++ "<lambda>") L (cloFrom X.env.cells L.scope.names []) .none pm (.ref c') ctv) ⟨[], []⟩) _ _ _
      rw [S.b0 d0]
      exact wpAny_pure (enter [] fun y hy => absurd hy (by simp))
    · have ed : dflV L T0 = .ref T0 := by unfold dflV; rw [if_neg (by rw [d1]; simp)]
      rw [ed]
      obtain ⟨b1, b2⟩ := S.b1 n d1
      obtain ⟨kk, k1, k2⟩ := b2 (X.env.qual ++ "<lambda>") (cloFrom X.env.cells L.scope.names []) T0 pm (.ref c') ctv
      rcases F5 with z | ⟨_, z⟩
      · rw [d1] at z
        cases z
      · rw [d1] at z
        obtain ⟨_, its, rvs, o, ho, hc, nn, hdat⟩ := I1.hok T0 _ z
        obtain ⟨u, rfl, ru⟩ := vals1 rvs
        exact BindsTo.of_defaults (fd := lamFd (X.env.qual ++ "<lambda>") L (cloFrom X.env.cells L.scope.names []) (.ref T0) pm (.ref c') ctv) rfl ho hdat k1 (k2 u) _ _ _ _ (enter [(pn, u)] fun y hy => by
          have e : y = (pn, u) := by simpa using hy
          rw [e]
          exact b1)
  refine wpAny_call (codeAny_mono rc fun r s' hq => ?_)
  cases r with
  | error e => exact passAt tk σZ pinsZ HZ s1 e s' I1 hq
  | ok fl =>
    cases fl with
    | ret u => exact I1.after hq
    | next => exact False.elim hq
    | brk => exact False.elim hq
    | cont => exact False.elim hq
end
end DV
end
section
set_option Elab.async false
set_option linter.all false
set_option maxRecDepth 100000
set_option maxHeartbeats 2000000
/-! DI3: the call of a def that gets a lambda of this frame first. -/
namespace DV
open PySem PySem.Spec PyProof.Rows L2

/-- a def whose first argument is a lambda that it calls -/
structure MetOk (C : Cfg) (P : Program) (w : World) (K : PySem.W.Frag) (mg : Str → Option Value) (base : Heap) (k : Nat) (x qual a : Str) (st : Stmt) (f : Addr) (fd : FuncData) (N ps : List Str) (mb : Nat → (S → Out D) → Sx) : Prop where
  F : Fun K x qual st f fd
  sc : FnScope N ps (defScope st)
  a0 : N[0]? = some a
  va : Vis (defScope st) a
  body : ∀ (cdv : Value) (A : Around) (outer : List PySem.Env) (s : Shared) (H : Hp) (E : XK) (r : LamR) (i : Nat) (q : S → Out D), Room k (A.deeper (envOfC qual (defScope st) s.heap.objs.size f cdv)) →
    (∀ (pn : List (Addr × Obj)) (xe : Value → Shared → Prop) (Wz : WX) (p1 p2 : Pos), Takes ((cxOf (L2.CX P w) P w K mg base N qual (defScope st) f cdv A outer s H E).tr pn xe) Wz → DE (C.wl r) ((cxOf (L2.CX P w) P w K mg base N qual (defScope st) f cdv A outer s H E).tr pn xe) Wz (.Call (.Name a p1) [] [] p2) (xAct 0 i q)) →
    DSs (C.wl r) (cxOf (L2.CX P w) P w K mg base N qual (defScope st) f cdv A outer s H E) (fun c d _ H => E c d H) (defBody st) (mb i q)
/-- met(lam, ..) -/
def xMet (mb : Nat → (S → Out D) → Sx) (n nN : Nat) (fbs : Nat → Ex) (fa : Ax) : Ex := fun e s => (fa e s).bind fun ds s1 => match ds with
  | .lam i [] :: r => if D.lows s1.mo.length s1.tg r = true then lowO (runDef n nN (mb i fun s' => lowO (fbs i e s')) s1 (.lam i [] :: r)) else .stuck
  | _ => .stuck
/-- a frame's lambdas -/
structure LamsOk (C : Cfg) (X : Cx) (k : Nat) (tab : Nat → Option LamT) (fbs : Nat → Ex) : Prop where
  each : ∀ i L, tab i = some L → ∃ (ks : List Nat) (pn : Str) (fb : Ex), LamS X L ks pn ∧ (fbs i = fun e s => fb (wipeE e ks) s) ∧
    ∀ (A : Around) (outer : List PySem.Env) (s : Shared) (H : Hp) (E : XK) (f c' : Addr), Room k (A.deeper (LamX.lamEnv X L.scope s.heap.objs.size f c')) → DE (C.wl (lrOf X tab)) (LamX.lamCx X A outer s H E L.scope f c') (fun c d _ H => E c d H) L.body fb
section
variable {C : Cfg} {X : Cx} {Wx : WX} {k : Nat} {x a : Str} {st : Stmt} {f : Addr} {fd : FuncData} {N ps : List Str} {mb : Nat → (S → Out D) → Sx} {tab : Nat → Option LamT} {fbs : Nat → Ex} {e : Expr} {es : List Expr} {fa : Ax} {p pos : Pos}
theorem de_met (M : MetOk C X.prog X.w X.K X.mg X.base (k + 1) x x a st f fd N ps mb) (Ls : LamsOk C X k tab fbs) (hr : Room (k + 2) X.A) (hg : Gl X x) (hm : X.mg x = some (.ref f)) (hk : PySem.W.keepIn X.K (.ref f) = true) (hb : Binds X.K fd ps []) (tk : Takes X Wx)
    (ha : DA (C.wl (lrOf X tab)) X Wx (e :: es) fa) (hdb : (x == ("__debug__" : Str)) = false := by decide) (hd : (a == ("__debug__" : Str)) = false := by decide) (hcd : (a == ("__classdict__" : Str)) = false := by decide)
    (he : starEach (e :: es) X.env = (false, eval e X.env) :: starEach es X.env := by rfl) (hpl : (backTo pos (starEach es X.env)).any (·.1) = false := by rfl) :
    DE (C.wl (lrOf X tab)) X Wx (.Call (.Name x p) (e :: es) [] pos) (xMet mb ps.length N.length fbs fa) := by
  refine ⟨fun pins s σ H Q I h => ?_⟩
  obtain ⟨W, env, s0, e0, q⟩ := h
  refine wpAny_Call_Name_kw (ld_glob I hg hm ?_ hdb)
  have h2 : tAx (C.wl (lrOf X tab)) X.K Wx fa σ H (fun vs H1 => ∃ W1 s1 ds, StE (C.wl (lrOf X tab)) X.K W1 H1 σ env s1 ∧ RDs (C.wl (lrOf X tab)) X.K W1 H1 ds vs ∧ Res (C.wl (lrOf X tab)) X.K (fun W H => RD (C.wl (lrOf X tab)) X.K W H) Wx σ env W1 H1 s1 (match ds with
      | .lam i [] :: r => if D.lows s1.mo.length s1.tg r = true then lowO (runDef ps.length N.length (mb i fun s' => lowO (fbs i env s')) s1 (.lam i [] :: r)) else .stuck
      | _ => .stuck) Q) :=
    ⟨W, env, s0, e0, Res.step q fun W1 H1 s1 ds vs l1 e1 h1 q1 => ⟨W1, s1, ds, e1, h1, q1⟩⟩
  refine PySem.W.callWith_K (h₀ := X.base) I.ok.mod.kin hk (thn (ha.run pos pins s σ H _ I h2) fun us sh1 ⟨vs, H1, I1, r, W1, s1, ds, e1, rds, q1⟩ => ⟨I1.kIn, ?_⟩) he hpl
  clear q h2
  split at q1
  rotate_left
  · exact q1.elim
  rename_i i rest
  split at q1
  rotate_left
  · exact q1.elim
  rename_i hlow
  obtain ⟨v0, vr, rfl, rd0, rdr⟩ := rds
  obtain ⟨_, fz, rfl, lr0⟩ := rd0
  obtain ⟨L, c', T0, hL, R1⟩ := lr0
  obtain ⟨ks, pn, fb, SL, hfb, hbody⟩ := Ls.each i L hL
  obtain ⟨oc, od, kV, doc, pm, an, cdv, ct, osl, rfl, lk, hcode⟩ := M.F.ex
  have HS : spD (C.wl (actR (C.wl (lrOf X tab)) X.K σ env fz i)) X.K (runDef ps.length N.length (mb i fun s' => lowO (fbs i env s'))) (.ref fz :: vr) H1 Q (WE Wx σ) := by
    refine ⟨W1, s1, .lam i [] :: rest, e1.st.wl, ⟨.ref fz, vr, rfl, ⟨rfl, fz, rfl, rfl, rfl, ⟨L, c', T0, hL, R1⟩, e1.sv⟩, RDs.wl hlow rdr⟩, ?_⟩
    revert q1
    cases runDef ps.length N.length (mb i fun s' => lowO (fbs i env s')) s1 (.lam i [] :: rest) with
    | stuck => exact fun q => False.elim q
    | ok d s' =>
      intro q W' H' b l t r'
      have q : Res (C.wl (lrOf X tab)) X.K (fun W H => RD (C.wl (lrOf X tab)) X.K W H) Wx σ env W1 H1 s1 (if d.low s'.mo.length s'.tg = true then Out.ok d s' else .stuck) Q := q
      by_cases hlow : d.low s'.mo.length s'.tg = true
      · rw [if_pos hlow] at q
        exact q W' H' b l (e1.later l t.wl) (RD.wl hlow r')
      · rw [if_neg hlow] at q
        exact q.elim
    | exc c es s' =>
      intro q W' H' dd ws l t f1 g1 n1 r'
      have q : Res (C.wl (lrOf X tab)) X.K (fun W H => RD (C.wl (lrOf X tab)) X.K W H) Wx σ env W1 H1 s1 (if D.lows s'.mo.length s'.tg es = true then Out.exc c es s' else .stuck) Q := q
      by_cases hlow : D.lows s'.mo.length s'.tg es = true
      · rw [if_pos hlow] at q
        exact q W' H' dd ws l (e1.later l t.wl) f1 g1 n1 (RDs.wl hlow r')
      · rw [if_neg hlow] at q
        exact q.elim
  obtain ⟨hn, hts⟩ := run_ts HS
  have hus : us.length = ps.length := by rw [← r.length]; exact hn
  have bt := hb sh1 us I1.kIn (by rw [List.append_nil]; exact hus)
  rw [List.append_nil] at bt
  have rc : codeAny (model X.prog X.w) X.A (.call (.ref f) ⟨us, []⟩) (CR (L2.CX X.prog X.w) X.stack X.prog X.w H1 sh1 Q (WE Wx σ)) sh1 :=
    LamX.run_ofS (N := N) (ps := ps) (us := us) (vs := .ref fz :: vr) lk hcode M.sc hr I1.env0 bt r hn fun hr' => by
      refine ⟨_, M.body cdv X.A X.stack sh1 H1 (WE Wx σ) _ i _ hr' (fun pn xe Wz p1 p2 tk' => ?_), hts⟩
      rw [hfb]
      exact de_act I1 e1.sl hL SL tk' hr' (fun A outer s H E f c' hr2 => hbody A outer s H E f c' hr2) M.a0 M.va hd hcd
  refine wpAny_call (codeAny_mono rc fun r s' hq => ?_)
  cases r with
  | error e => exact passAt tk σ pins H1 sh1 e s' I1 hq
  | ok fl =>
    cases fl with
    | ret u => exact I1.after hq
    | next => exact False.elim hq
    | brk => exact False.elim hq
    | cont => exact False.elim hq
end
end DV
end
section
set_option Elab.async false
set_option linter.all false
set_option maxRecDepth 100000
set_option maxHeartbeats 2000000
/-! DH: small helps for printed derivations. -/
namespace DV
open PySem PySem.Spec PyProof.Rows L2

/-- one of two readings of a text, as the state tells -/
def xEi (c : Env → S → Bool) (f g : Ex) : Ex := fun e s => if c e s = true then f e s else g e s
theorem de_ei {C : Cfg} {X : Cx} {Wx : WX} {e : Expr} {c : Env → S → Bool} {f g : Ex} (h1 : DE C X Wx e f) (h2 : DE C X Wx e g) : DE C X Wx e (xEi c f g) := ⟨fun pins s σ H Q I h => by
  obtain ⟨W, env, st, e, q⟩ := h
  by_cases hc : c env st = true
  · unfold xEi at q
    rw [if_pos hc] at q
    exact h1.run pins s σ H Q I ⟨W, env, st, e, q⟩
  · unfold xEi at q
    rw [if_neg hc] at q
    exact h2.run pins s σ H Q I ⟨W, env, st, e, q⟩⟩
/-- a + b joins two lists -/
def isCat (fa fb : Ex) : Env → S → Bool := fun e s => match fa e s with
  | .ok d s1 => match fb e s1 with
    | .ok _ s2 => (lstD (view s2 d)).isSome
    | _ => false
  | _ => false
def xAdd (fa fb : Ex) : Ex := xEi (isCat fa fb) (xFz (aCat fa fb)) (xBin gAdd fa fb)
theorem de_add {C : Cfg} {X : Cx} {Wx : WX} {a b : Expr} {fa fb : Ex} {pos : Pos} (ha : DE C X Wx a fa) (hb : DE C X Wx b fb) : DE C X Wx (.BinOp a .Add b pos) (xAdd fa fb) := de_ei (NE.fz (ne_cat ha hb)) (de_bin o_add ha hb)
section
variable {k : Nat} {A : Around}
theorem _root_.L2.Room.b64 (r : Room k A) : A.units + 64 < cLine := by have := r.un; omega
theorem _root_.L2.Room.b65 (r : Room k A) : A.units + 65 < cLine := by have := r.un; omega
theorem _root_.L2.Room.b1 (r : Room k A) : A.units + 1 < cLine := by have := r.un; omega
theorem _root_.L2.Room.b8 (r : Room k A) : A.units + 8 < cLine := by have := r.un; omega
end
theorem ip_addD {C : Cfg} {X : Cx} : PIp X .Add (r2 C X.K (gInt fun i j => some (.int (i + j)))) := by
  intro pins s σ H x y v u Q I r1 r2 h
  obtain ⟨W, st, d, e, t, a, b, q⟩ := h
  revert q
  cases hz : gInt (fun i j => some (D.int (i + j))) st d e with
  | none => exact fun q => q.elim
  | some z =>
    obtain ⟨i, j, e1, e2, e3⟩ := intD_inv hz
    have za := see_of t a
    have zb := see_of t b
    rw [e1] at za
    rw [e2] at zb
    cases e3
    exact fun q => ip_add pins s σ H x y v u Q I r1 r2 ⟨i, j, za, zb, q W H _ Le.refl t rfl⟩
def tbOf (ts : List String) (n : String) : Bool := ts.any fun t => n == t || (n == "bool" && t == "int")
example (K : PySem.W.Frag) : PySem.W.kitAny K (.type "bool") [.type "int"] = some true := by rfl
example (K : PySem.W.Frag) : PySem.W.kitAny K (.type "bool") [.type "list", .type "tuple"] = some false := by rfl
section
variable {C : Cfg} {X : Cx} {Wx : WX} {a : Expr} {fa : Ex} {pos p : Pos}
theorem de_is1 {T : Str} {n : String} {p2 : Pos} (hg : Gl X "isinstance") (hm : X.mg "isinstance" = none) (ha : DE C X Wx a fa) (g1 : Gl X T) (m1 : X.mg T = none) (b1 : bootBuiltins T = some (.type n)) (n1 : T ≠ "__name__") (d1 : (T == ("__debug__" : Str)) = false)
    (hT : ∀ m ∈ tyNames, PySem.W.kitAny X.K (.type m) [.type n] = some (tbOf [n] m))
    (hs1 : starEach [a, .Name T p2] X.env = (false, eval a X.env) :: starEach [.Name T p2] X.env := by rfl) (hs2 : starEach [.Name T p2] X.env = (false, eval (.Name T p2) X.env) :: starEach [] X.env := by rfl) (hpl : (backTo pos (starEach [.Name T p2] X.env)).any (·.1) = false := by rfl) :
    DE C X Wx (.Call (.Name "isinstance" p) [a, .Name T p2] [] pos) (xUn (gIsi (tbOf [n]) fun _ => none) fa) :=
  de_isi hg hm ha (pe_bltn (v := .ty n) g1 m1 b1 rfl n1 d1) (.ty n) hT (fun c b h => nomatch h) hs1 hs2 hpl
end
theorem kit7 {K : PySem.W.Frag} {us : List Value} {tb : String → Bool} (h1 : PySem.W.kitAny K (.type "NoneType") us = some (tb "NoneType")) (h2 : PySem.W.kitAny K (.type "bool") us = some (tb "bool")) (h3 : PySem.W.kitAny K (.type "int") us = some (tb "int"))
    (h4 : PySem.W.kitAny K (.type "str") us = some (tb "str")) (h5 : PySem.W.kitAny K (.type "list") us = some (tb "list")) (h6 : PySem.W.kitAny K (.type "tuple") us = some (tb "tuple")) (h7 : PySem.W.kitAny K (.type "dict") us = some (tb "dict")) : ∀ n ∈ tyNames, PySem.W.kitAny K (.type n) us = some (tb n) := fun n hn => by
  simp only [tyNames, List.mem_cons, List.mem_nil_iff, or_false] at hn
  rcases hn with rfl | rfl | rfl | rfl | rfl | rfl | rfl
  · exact h1
  · exact h2
  · exact h3
  · exact h4
  · exact h5
  · exact h6
  · exact h7
end DV
namespace DV
open PySem PySem.Spec PyProof.Rows L2
section
variable {P : Program} {w : World} {K : PySem.W.Frag} {mg : Str → Option Value} {base : Heap} {N : List Str} {q : Str} {sc : Scope} {f : Addr} {cd : Value} {A : Around} {outer : List PySem.Env} {s : Shared} {H : L2.Hp} {E : XK}
theorem tk_cx : Takes (cxOf (L2.CX P w) P w K mg base N q sc f cd A outer s H E) (fun c d _ H => E c d H) := L2.takes_of rfl rfl rfl rfl
theorem own_cx : PassesOwn (model P w) (cxOf (L2.CX P w) P w K mg base N q sc f cd A outer s H E).A (cxOf (L2.CX P w) P w K mg base N q sc f cd A outer s H E).env (cxOf (L2.CX P w) P w K mg base N q sc f cd A outer s H E).xe := passes_of rfl
end
end DV
namespace DV
open PySem PySem.Spec PyProof.Rows L2
section
variable {X : Cx}
theorem pa_ty0 : PA X [] (fun σ H Q => Q [] H) := pa_nil
theorem pa_ty {T : Str} {n : String} {p : Pos} {cs : List Expr} {cvs : List V} (h : PA X cs (fun σ H Q => Q cvs H)) (g1 : Gl X T) (m1 : X.mg T = none) (b1 : bootBuiltins T = some (.type n)) (n1 : T ≠ "__name__") (d1 : (T == ("__debug__" : Str)) = false) :
    PA X (.Name T p :: cs) (fun σ H Q => Q (.ty n :: cvs) H) := pa_cons (pe_bltn (v := .ty n) g1 m1 b1 rfl n1 d1) h
end
end DV
end
section
set_option Elab.async false
set_option linter.all false
set_option maxRecDepth 100000
set_option maxHeartbeats 2000000
/-! DV2: what the head tells, in bundles; parts of a text. -/
namespace DV
open PySem PySem.Spec PyProof.Rows L2
def inCls (s : Stmt) (j : Nat) : Stmt := match s with
  | .ClassDef (body := b) .. => b.getD j s
  | _ => s
/-- an error of the module: class c, its field -/
structure ExcH (C : Cfg) (P : Program) (w : World) (K : PySem.W.Frag) (mg : Str → Option Value) (x p fld : Str) (c : Nat) where
  m : mg x = some (.ref (C.ca c))
  ox : OexC K (C.ca c)
  aI : Addr
  dI : FuncData
  init : PySem.W.findIn K (.ref (C.ca c)) "__init__" = some (some (.ref aI))
  ti : PySem.W.typeIn K (.ref aI) = some (.type "function")
  cf : C.cf c = [fld]
  ok : ∀ (base : Heap) (k : Nat), FnOk P w K mg base (L2.CX P w) (k + 1) aI dI ["self", p] (spI (C.ca c) fld)
  b : Binds K dI ["self", p] []
  xf : XfC K (C.ca c)
  nf : PySem.W.findIn K (.ref (C.ca c)) fld = some none
/-- a class whose instances are made -/
structure InsH (C : Cfg) (K : PySem.W.Frag) (mg : Str → Option Value) (x : Str) (fs : List Str) (c : Nat) where
  m : mg x = some (.ref (C.ca c))
  aI : Addr
  mkr : Mk K (C.ca c) aI
  cl : Cls K (C.ca c)
  cf : C.cf c = fs
  isi : IsiC K (C.ca c)
  no : ∀ f ∈ fs, NoAttr K (C.ca c) f
theorem InsH.fld {C : Cfg} {K : PySem.W.Frag} {mg : Str → Option Value} {x : Str} {fs : List Str} {c : Nat} (h : InsH C K mg x fs c) (nd : fs.Nodup) {f : Str} {i : Nat} (e : fs[i]? = some f) : FldC C K f c i :=
  ⟨by rw [h.cf]; exact e, by rw [h.cf]; exact nd, h.cl, h.no f (List.mem_of_getElem? e)⟩
def ix1 (c i : Nat) : Nat → Option Nat := fun k => if k = c then some i else none
theorem InsH.fx {C : Cfg} {K : PySem.W.Frag} {mg : Str → Option Value} {x : Str} {fs : List Str} {c : Nat} (h : InsH C K mg x fs c) (nd : fs.Nodup) {f : Str} {i : Nat} (e : fs[i]? = some f) : ∀ c' i', ix1 c i c' = some i' → FldC C K f c' i' := fun c' i' z => by
  unfold ix1 at z
  by_cases hc : c' = c
  · rw [if_pos hc] at z
    cases z
    rw [hc]
    exact h.fld nd e
  · rw [if_neg hc] at z
    cases z
end DV
/-! ### parts of a text; lambdas -/
namespace DV
open PySem PySem.Spec PyProof.Rows L2
def sAt (l : List Stmt) (i : Nat) : Stmt := l.getD i (.Pass ⟨0, 0, 0, 0⟩)
def sBody (s : Stmt) : List Stmt := match s with
  | .For _ _ b _ _ => b
  | .While _ b _ _ => b
  | .If _ b _ _ => b
  | .Try b _ _ _ _ => b
  | _ => []
def sElse (s : Stmt) : List Stmt := match s with
  | .For _ _ _ b _ => b
  | .If _ _ b _ => b
  | _ => []
def sVal (s : Stmt) : Expr := match s with
  | .Assign _ e _ => e
  | .Return (some e) _ => e
  | .Expr e _ => e
  | .For _ e _ _ _ => e
  | .If e _ _ _ => e
  | .AugAssign _ _ e _ => e
  | _ => .Name "" ⟨0, 0, 0, 0⟩
def eAt (e : Expr) (i : Nat) : Expr := (match e with
  | .Call f as ks _ => f :: (as ++ ks.map fun k => PySem.Keyword.value k)
  | .List es _ => es
  | .Tuple es _ _ => es
  | .BoolOp _ es _ => es
  | .BinOp a _ b _ => [a, b]
  | .UnaryOp _ a _ => [a]
  | .Compare a _ bs _ => a :: bs
  | .IfExp t a b _ => [t, a, b]
  | .Subscript a b _ => [a, b]
  | .Attribute a _ _ => [a]
  | _ => []).getD i e
def lamOf (e : Expr) (dn : List Int) : LamT := match e with
  | .Lambda p b s _ => ⟨p, b, s, dn⟩
  | _ => ⟨{ posonlyargs := [], args := [], vararg := none, kwonlyargs := [], kw_defaults := [], kwarg := none, defaults := [] }, e, { kind := .function, names := [], isGenerator := false, isCoroutine := false }, dn⟩
def lamC (L : LamT) (sc : Scope) (N : List Str) (ks : List Nat) : Bool :=
  (match L.scope.kind with | .function => true | _ => false) && !L.scope.isCoroutine && !L.scope.isGenerator && (L.scope.names.all fun y => decide (y.2 ≠ .cell)) &&
  (L.scope.names.all fun y => decide (y.2 ≠ .free) || decide (sc.names.lookup y.1 = some .cell) || decide (sc.names.lookup y.1 = some .free)) &&
  (N.zipIdx.all fun p => decide (L.scope.names.lookup p.1 ≠ some .local) || decide (p.2 ∈ ks))
theorem lamS_by {X : Cx} {L : LamT} {ks : List Nat} {pn : Str} (h : lamC L X.env.scope X.N ks = true)
    (b0 : L.dn = [] → ∀ (q : Str) (cl : List (Str × Addr)) (pm cdv ct : Value), bindArgs (lamFd q L cl .none pm cdv ct) ⟨[], []⟩ = pure [])
    (b1 : ∀ i, L.dn = [i] → L.scope.names.lookup pn = some .local ∧ ∀ (q : Str) (cl : List (Str × Addr)) (T : Addr) (pm cdv ct : Value), ∃ k : Option (Array Value) → Sem (List (Str × Value)), bindArgs (lamFd q L cl (.ref T) pm cdv ct) ⟨[], []⟩ = seqItems? (.ref T) >>= k ∧ ∀ v, k (some #[v]) = pure [(pn, v)])
    (dn : L.dn = [] ∨ ∃ i, L.dn = [i]) : LamS X L ks pn := by
  unfold lamC at h
  simp only [Bool.and_eq_true, List.all_eq_true, Bool.or_eq_true, decide_eq_true_eq, Bool.not_eq_true'] at h
  obtain ⟨⟨⟨⟨⟨h1, h2⟩, h3⟩, h4⟩, h5⟩, h6⟩ := h
  refine ⟨?_, h2, h3, fun y hy => h4 y hy, fun y hy e => ?_, fun i x hi hx => ?_, b0, b1, dn⟩
  · revert h1
    cases L.scope.kind <;> simp
  · rcases h5 y hy with (z | z) | z
    · exact absurd e z
    · exact .inl z
    · exact .inr z
  · have hm : (x, i) ∈ X.N.zipIdx := by
      rw [List.mem_zipIdx_iff_getElem?]
      exact hi
    rcases h6 _ hm with z | z
    · exact absurd hx z
    · exact z
section
variable {X : Cx} {A : Around} {outer : List PySem.Env} {s : Shared} {H : L2.Hp} {E : XK} {sc : Scope} {f c : Addr}
theorem tk_lam : Takes (LamX.lamCx X A outer s H E sc f c) (fun c d _ H => E c d H) := L2.takes_of rfl rfl rfl rfl
end
theorem makesL_by {X : Cx} {T : List NdefX.NTab} {c P : Addr} {L : LamT} {pos : Pos} {q : Str} (tb : LamX.TabB X.base X.mg c P) (code : X.env.code = .ref c) (hq : X.env.qual ++ "<lambda>" = q) (inT : (P, (fun _ _ => q : Nat → Nat → Str)) ∈ T) (uniq : ∀ p ∈ T, p.1 = P → p.2 = fun _ _ => q)
    (free : (L.scope.names.all fun y => decide (y.2 ≠ .free) || decide (X.env.scope.names.lookup y.1 = some .cell) || decide (X.env.scope.names.lookup y.1 = some .free)) = true) (kwo : L.params.kwonlyargs = [])
    (dfl : (L.dn = [] ∧ defaultsOf L.params X.env = ([], [])) ∨ ∃ (i : Int) (j : Nat) (p : Pos), L.dn = [i] ∧ defaultsOf L.params X.env = ([eval (.Constant (.int i) j p) X.env], [])) : MakesL X T c P (fun _ _ => q) L pos :=
  ⟨tb, code, inT, hq.symm, uniq, fun y hy e => by
    simp only [List.all_eq_true, Bool.or_eq_true, decide_eq_true_eq] at free
    rcases free y hy with (z | z) | z
    · exact absurd e z
    · exact .inl z
    · exact .inr z, kwo, dfl⟩
end DV
namespace DV
open PySem PySem.Spec PyProof.Rows L2
theorem fn_stuck {C : Cfg} {P : Program} {w : World} {K : PySem.W.Frag} {mg : Str → Option Value} {base : Heap} {CX : CXT} {k : Nat} {f : Addr} {fd : FuncData} {ps : List Str} : FnOk P w K mg base CX k f fd ps (spD C K fun _ _ => .stuck) :=
  ⟨fun vs H Q E ⟨_, _, _, _, _, q⟩ => q.elim, fun A outer s H args us vs Q E hr e0 hb r ⟨_, _, _, _, _, q⟩ => q.elim⟩
def ExcH.wl {C : Cfg} {P : Program} {w : World} {K : PySem.W.Frag} {mg : Str → Option Value} {x p fld : Str} {c : Nat} (h : ExcH C P w K mg x p fld c) (r : LamR) : ExcH (C.wl r) P w K mg x p fld c := ⟨h.m, h.ox, h.aI, h.dI, h.init, h.ti, h.cf, h.ok, h.b, h.xf, h.nf⟩
def InsH.wl {C : Cfg} {K : PySem.W.Frag} {mg : Str → Option Value} {x : Str} {fs : List Str} {c : Nat} (h : InsH C K mg x fs c) (r : LamR) : InsH (C.wl r) K mg x fs c := ⟨h.m, h.aI, h.mkr, h.cl, h.cf, h.isi, h.no⟩
end DV
namespace DV
theorem mk_eq {K : PySem.W.Frag} {c a b : PySem.Addr} (e : a = b) (h : L2.Mk K c a) : L2.Mk K c b := e ▸ h
end DV
end
section
set_option Elab.async false
set_option linter.all false
set_option maxRecDepth 100000
set_option maxHeartbeats 2000000
/-! DE2: a def that hands out an object of its own that its caller may change. -/
namespace DV
open PySem PySem.Spec PyProof.Rows L2
def MO.live : MO → Bool
  | .dead => false
  | _ => true
/-- as fin, but an own object stays one -/
def finO (s : S) (d : D) (s' : S) : Out D := match d with
  | .ref i => if i < s.mo.length then fin s d s' else match s'.mo[i]? with
    | some o => if o.live = true then .ok (.ref s.mo.length) ⟨s'.mo.take s.mo.length ++ [o], s.tg⟩ else .stuck
    | none => .stuck
  | d => fin s d s'
def endDefO (s : S) : Fl → Out D
  | .ret d s' => finO s d s'
  | r => endDef s r
def runDefO (n nN : Nat) (f : Sx) : S → List D → Out D := fun s ds => if ds.length = n then endDefO s (f (ds.map some ++ List.replicate (nN - ds.length) none) s) else .stuck
theorem Le.len {W W' : Wd} {H H' : Hp} {s s' : S} (l : Le W H s W' H' s') : W.al.length ≤ W'.al.length := len_al l
/-- the world that the caller sees: one more object -/
def Wd.backO (W W' : Wd) (a : Addr) : Wd := ⟨W'.F, W.al ++ [a], W.ts⟩
section
variable {C : Cfg} {K : PySem.W.Frag} {W W' : Wd} {H H' : Hp} {s s' : S} {i : Nat} {a : Addr} {o : MO}
theorem mok_low {W1 W2 : Wd} (h : MOk C K W1 H' a o) (hF : ∀ b, W1.F b → W2.F b) : MOk C K W2 H' a o := by
  cases o with
  | lst xs =>
    obtain ⟨vs, g1, g2, g3⟩ := h
    exact ⟨vs, g1, RDs.low (W := W1) (W' := W2) (n := 0) (t := 0) rfl rfl rfl hF (fun i z => absurd z (Nat.not_lt_zero _)) (fun i z => absurd z (Nat.not_lt_zero _)) xs vs g3 g2, g3⟩
  | dK ks vs =>
    obtain ⟨kvs, g1, g2, g3, g4⟩ := h
    exact ⟨kvs, g1, g2, RDs.low (W := W1) (W' := W2) (n := 0) (t := 0) rfl rfl rfl hF (fun i z => absurd z (Nat.not_lt_zero _)) (fun i z => absurd z (Nat.not_lt_zero _)) vs _ g4 g3, g4⟩
  | dT ks vs =>
    obtain ⟨kvs, g1, g2, g3, g4⟩ := h
    exact ⟨kvs, g1, g2, RDs.low (W := W1) (W' := W2) (n := 0) (t := 0) rfl rfl rfl hF (fun i z => absurd z (Nat.not_lt_zero _)) (fun i z => absurd z (Nat.not_lt_zero _)) vs _ g4 g3, g4⟩
  | ins c vs =>
    obtain ⟨dx, ws, g1, g2, g3, g4⟩ := h
    exact ⟨dx, ws, g1, g2, RDs.low (W := W1) (W' := W2) (n := 0) (t := 0) rfl rfl rfl hF (fun i z => absurd z (Nat.not_lt_zero _)) (fun i z => absurd z (Nat.not_lt_zero _)) vs _ g4 g3, g4⟩
  | dead => exact True.intro
theorem Le.backO (l : Le W H s W' H' s') (t : StS C K W H s) (hi : W.al.length ≤ i) (ha : W'.al[i]? = some a) : Le W H s (W.backO W' a) H' ⟨s'.mo.take s.mo.length ++ [o], s.tg⟩ := by
  refine ⟨l.fz, fun j b h => ?_, fun _ _ h => h, l.ext, l.dom, fun j h => ?_, fun j b hj h => ?_, l.nw⟩
  · show (W.al ++ [a])[j]? = some b
    rw [List.getElem?_append_left (List.getElem?_eq_some_iff.mp h).1]
    exact h
  · have hj : j < s.mo.length := (List.getElem?_eq_some_iff.mp h).1
    show (s'.mo.take s.mo.length ++ [o])[j]? = some .dead
    have h2 := l.ded j h
    have hl : j < (s'.mo.take s.mo.length).length := by
      rw [List.length_take]
      have := (List.getElem?_eq_some_iff.mp h2).1
      omega
    rw [List.getElem?_append_left hl, List.getElem?_take, if_pos hj]
    exact h2
  · have h' : (W.al ++ [a])[j]? = some b := h
    rw [List.getElem?_append_right hj] at h'
    cases e : j - W.al.length with
    | zero =>
      rw [e] at h'
      cases h'
      exact l.new i a hi ha
    | succ n =>
      rw [e] at h'
      simp at h'
theorem StS.backO (l : Le W H s W' H' s') (t : StS C K W H s) (t' : StS C K W' H' s') (hi : W.al.length ≤ i) (ha : W'.al[i]? = some a) (ho : s'.mo[i]? = some o) (lv : o.live = true) : StS C K (W.backO W' a) H' ⟨s'.mo.take s.mo.length ++ [o], s.tg⟩ := by
  have hl := len_al l
  have e1 := t.len
  have e2 := t'.len
  have hb := StS.back l t t'
  have tl : (s'.mo.take s.mo.length).length = W.al.length := by
    rw [List.length_take]
    omega
  have na : a ∉ W.al := fun z => t.alh a z (l.new i a hi ha)
  refine ⟨?_, t.tln, ?_, fun j u b h1 h2 => ?_, fun b h => ?_, fun b hb2 => ?_, tbs_mono hb.tb fun _ h => h⟩
  · show (W.al ++ [a]).length = (s'.mo.take s.mo.length ++ [o]).length
    rw [List.length_append, List.length_append, tl]
    rfl
  · show (W.al ++ [a]).Nodup
    rw [List.nodup_append]
    refine ⟨t.nod, by simp, fun b hb1 c hc => ?_⟩
    have hc : c = a := by simpa using hc
    subst hc
    exact fun z => na (z ▸ hb1)
  · have h1 : (s'.mo.take s.mo.length ++ [o])[j]? = some u := h1
    have h2 : (W.al ++ [a])[j]? = some b := h2
    by_cases hj : j < W.al.length
    · rw [List.getElem?_append_left (by omega)] at h1
      rw [List.getElem?_append_left hj] at h2
      exact mok_low (hb.mo j u b h1 h2) fun _ h => h
    · have z : j < (W.al ++ [a]).length := (List.getElem?_eq_some_iff.mp h2).1
      rw [List.length_append, List.length_singleton] at z
      have hj2 : j = W.al.length := by omega
      subst hj2
      rw [List.getElem?_append_right (by omega)] at h1
      rw [List.getElem?_append_right (Nat.le_refl _)] at h2
      simp only [Nat.sub_self, List.getElem?_cons_zero, Option.some.injEq, tl] at h1 h2
      subst h1 h2
      exact mok_low (t'.mo i o a ho ha) fun _ h => h
  · obtain ⟨g1, g2, g3⟩ := t'.fz b h
    refine ⟨g1, g2, fun j hj => ?_⟩
    have hj' : (W.al ++ [a])[j]? = some b := hj
    show (s'.mo.take s.mo.length ++ [o])[j]? = some .dead
    by_cases hj2 : j < W.al.length
    · rw [List.getElem?_append_left hj2] at hj'
      have := (hb.fz b h).2.2 j hj'
      rw [List.getElem?_append_left (by omega)]
      exact this
    · have z : j < (W.al ++ [a]).length := (List.getElem?_eq_some_iff.mp hj').1
      rw [List.length_append, List.length_singleton] at z
      have hj3 : j = W.al.length := by omega
      subst hj3
      rw [List.getElem?_append_right (Nat.le_refl _)] at hj'
      simp only [Nat.sub_self, List.getElem?_cons_zero, Option.some.injEq] at hj'
      subst hj'
      have := g3 i ha
      rw [ho] at this
      cases this
      cases lv
  · have hb2 : b ∈ W.al ++ [a] := hb2
    rw [List.mem_append, List.mem_singleton] at hb2
    rcases hb2 with z | z
    · exact l.dom b (t.alh b z)
    · subst z
      exact t'.alh _ (List.mem_of_getElem? ha)
end
/-- THE END OF A FRAME -/
theorem end_okO {C : Cfg} {K : PySem.W.Frag} {W W1 : Wd} {H H1 : Hp} {s s1 : S} {d : D} {v : V} {Q : VK} {E : XK} (t : StS C K W H s) (l : Le W H s W1 H1 s1) (t1 : StS C K W1 H1 s1) (r : RD C K W1 H1 d v)
    (h : match finO s d s1 with
      | .ok d s' => ∀ W' H' v, Le W H s W' H' s' → StS C K W' H' s' → RD C K W' H' d v → Q v H'
      | .exc c es s' => ∀ W' H' dd ws, Le W H s W' H' s' → StS C K W' H' s' → W'.F dd → H' dd = some (.xd ((C.cf c).zip ws)) → (C.cf c).length = ws.length → RDs C K W' H' es ws → E (.ref (C.ca c)) (some dd) H'
      | .stuck => False) : Q v H1 := by
  cases d with
  | ref i =>
    by_cases hi : i < s.mo.length
    · have e : finO s (.ref i) s1 = fin s (.ref i) s1 := if_pos hi
      rw [e] at h
      exact end_ok (E := E) t l t1 r h
    · have e : finO s (.ref i) s1 = match s1.mo[i]? with
        | some o => if o.live = true then .ok (.ref s.mo.length) ⟨s1.mo.take s.mo.length ++ [o], s.tg⟩ else .stuck
        | none => .stuck := if_neg hi
      rw [e] at h
      revert h
      cases ho : s1.mo[i]? with
      | none => exact fun h => h.elim
      | some o =>
        by_cases lv : o.live = true
        · simp only [if_pos lv]
          intro h
          obtain ⟨a, ha, e⟩ := r
          have hi2 : W.al.length ≤ i := by rw [t.len]; exact Nat.le_of_not_lt hi
          refine h (W.backO W1 a) H1 v (l.backO t hi2 ha) (StS.backO l t t1 hi2 ha ho lv) ⟨a, ?_, e⟩
          show (W.al ++ [a])[s.mo.length]? = some a
          rw [← t.len, List.getElem?_append_right (Nat.le_refl _), Nat.sub_self]
          rfl
        · simp only [if_neg lv]
          exact fun h => h.elim
  | _ => exact end_ok (E := E) t l t1 r h
theorem fn_defO {C : Cfg} {P : Program} {w : World} {K : PySem.W.Frag} {mg : Str → Option Value} {base : Heap} {k : Nat} {x qual : Str} {st : Stmt} {f : Addr} {fd : FuncData} {N ps : List Str} {body : Sx} (F : Fun K x qual st f fd) (S : FnScope N ps (defScope st))
    (hb : ∀ (cdv : Value) (A : Around) (outer : List PySem.Env) (s : Shared) (H : Hp) (E : XK), Room k (A.deeper (envOfC qual (defScope st) s.heap.objs.size f cdv)) →
      DSs C (cxOf (L2.CX P w) P w K mg base N qual (defScope st) f cdv A outer s H E) (fun c d _ H => E c d H) (defBody st) body) : FnOk P w K mg base (L2.CX P w) (k + 1) f fd ps (spD C K (runDefO ps.length N.length body)) := by
  refine F.okX S (fun vs H Q E h => ?_) (fun cdv A outer s H vs Q E hr h => ?_)
  · obtain ⟨W, s, ds, t, r, q⟩ := h
    rw [← r.length]
    by_cases hn : ds.length = ps.length
    · exact hn
    · unfold runDefO at q
      rw [if_neg hn] at q
      exact q.elim
  · obtain ⟨W, s0, ds, t, r, q⟩ := h
    refine ⟨_, hb cdv A outer s H E hr, W, _, s0, RDs.start t r, ?_⟩
    unfold runDefO at q
    by_cases hn : ds.length = ps.length
    · rw [if_pos hn] at q
      revert q
      cases body (ds.map some ++ List.replicate (N.length - ds.length) none) s0 with
      | next e' s' => exact fun q W1 σ1 H1 l1 e1 => q (W.back W1) H1 .non (l1.back t) (StS.back l1 t e1.st) rfl
      | ret d s' => exact fun q W1 v H1 l1 t1 r1 => end_okO (E := E) t l1 t1 r1 q
      | exc c vs e' s' =>
        have e : endDefO s0 (.exc c vs e' s') = if D.lows s0.mo.length s0.tg vs = true then .exc c vs (DV.back s0 s') else .stuck := rfl
        rw [e]
        by_cases hlow : D.lows s0.mo.length s0.tg vs = true
        · simp only [if_pos hlow]
          intro q W1 σ1 H1 dd ws l1 e1 f1 g1 n1 r1
          exact q (W.back W1) H1 dd ws (l1.back t) (StS.back l1 t e1.st) f1 g1 n1 (RDs.low (W := W1) (W' := W.back W1) (n := s0.mo.length) (t := s0.tg) rfl rfl rfl (fun _ z => z) (fun i hi => back_al l1 i (by rw [t.len]; exact hi)) (fun i hi => back_ts l1 i (by rw [t.tln]; exact hi)) vs ws hlow r1)
        · simp only [if_neg hlow]
          exact fun q => q.elim
      | brk _ _ => exact fun q => q.elim
      | cont _ _ => exact fun q => q.elim
      | stuck => exact fun q => q.elim
    · rw [if_neg hn] at q
      exact q.elim
end DV
end
section
set_option Elab.async false
set_option linter.all false
set_option maxRecDepth 100000
set_option maxHeartbeats 2000000
/-! DF: a told list (a told dict) is marked, looked at by another name, unmarked. -/
namespace DV
open PySem PySem.Spec PyProof.Rows L2
/-- one and the same thing, by its tag -/
def sameTag (a b : D) : Option D := match a, b with
  | .tag i _, .tag j d => if i = j then some d.strip else none
  | _, _ => none
def sVeryL : Sx := fun e s => match e with
  | [some a, some b, _] => (match sameTag a b with
    | some (.lst xs) => if xs.length < sizeLine then .ret (.bl true) s else .stuck
    | _ => .stuck)
  | _ => .stuck
def lateD (k : D) : Bool := match k with
  | .str x => decide (x = (" late " : Str))
  | _ => false
def sVeryD : Sx := fun e s => match e with
  | [some a, some b, _] => (match sameTag a b with
    | some (.dct ks vs) => if ks.length < sizeLine ∧ ks.all (fun k => match k with | .int _ => true | .str x => !decide (x = (" late " : Str)) | _ => false) = true then .ret (.bl true) s else .stuck
    | _ => .stuck)
  | _ => .stuck
abbrev tVL (K : PySem.W.Frag) : TS :=
  tSeq (tDrop (tBM K "list" rAppend (L2.tVar 1) (tCons (tC (.str " late ")) tNil)))
  (tSeq (tAsg (tAndV (tCB (rIsi K) (tCons (L2.tVar 0) (tCons (tC (.ty "list")) tNil)))
    (tAndV (tOp rEq (tCB (fun xs H Q => ∃ x n, xs = [x] ∧ LenV K x H n ∧ Q (.int n) H) (tCons (L2.tVar 0) tNil)) (tCB (fun xs H Q => ∃ x n, xs = [x] ∧ LenV K x H n ∧ Q (.int n) H) (tCons (L2.tVar 1) tNil)))
      (tOp rEq (tOp (rIx K) (L2.tVar 0) (tUn (rU fun i => .int (-i)) (tC (.int 1)))) (tC (.str " late "))))) (gName 2))
  (tSeq (tDrop (tBM0 K "list" rPop (L2.tVar 1))) (tRet (L2.tVar 2))))
abbrev tVD (K : PySem.W.Frag) : TS :=
  tSeq (tAsg (tC (.int 7)) (L2.gSub (L2.tVar 1) (tC (.str " late ")) rSetD))
  (tSeq (tAsg (tAndV (tCB (rIsi K) (tCons (L2.tVar 0) (tCons (tC (.ty "dict")) tNil)))
    (tAndV (tOp rEq (tCB (fun xs H Q => ∃ a kvs, xs = [V.ref a] ∧ H a = some (.dK kvs) ∧ Q (.int kvs.length) H) (tCons (L2.tVar 0) tNil)) (tCB (fun xs H Q => ∃ a kvs, xs = [V.ref a] ∧ H a = some (.dK kvs) ∧ Q (.int kvs.length) H) (tCons (L2.tVar 1) tNil)))
      (tOp rEq (tDGet1 (L2.tVar 0) (tC (.str " late "))) (tC (.int 7))))) (gName 2))
  (tSeq (tDrop (tDPop1 (L2.tVar 1) (tC (.str " late ")))) (tRet (L2.tVar 2))))
abbrev tV1 : TS := tAsg (tC (.int 7)) (L2.gSub (L2.tVar 1) (tC (.str " late ")) rSetD)
abbrev tV2 (K : PySem.W.Frag) : TS := tAsg (tAndV (tCB (rIsi K) (tCons (L2.tVar 0) (tCons (tC (.ty "dict")) tNil)))
    (tAndV (tOp rEq (tCB (fun xs H Q => ∃ a kvs, xs = [V.ref a] ∧ H a = some (.dK kvs) ∧ Q (.int kvs.length) H) (tCons (L2.tVar 0) tNil)) (tCB (fun xs H Q => ∃ a kvs, xs = [V.ref a] ∧ H a = some (.dK kvs) ∧ Q (.int kvs.length) H) (tCons (L2.tVar 1) tNil)))
      (tOp rEq (tDGet1 (L2.tVar 0) (tC (.str " late "))) (tC (.int 7))))) (gName 2)
abbrev tV3 : TS := tDrop (tDPop1 (L2.tVar 1) (tC (.str " late ")))
theorem upd_back {H : Hp} {a : Addr} {o o' : HO} (h : H a = some o) : L2.upd (L2.upd H a o') a o = H := by
  funext b
  by_cases e : b = a
  · rw [e, upd_same, h]
  · rw [upd_ne e, upd_ne e]
theorem σ3 {C : Cfg} {K : PySem.W.Frag} {W : Wd} {H : Hp} {σ : L2.St} {s : S} {a b : D} {c : Option D} (e : StE C K W H σ [some a, some b, c] s) : ∃ (u v : V) (w : Option V), σ = [some u, some v, w] ∧ RD C K W H a u ∧ RD C K W H b v := by
  have hl := e.sl
  obtain ⟨u, h1, r1⟩ := e.sv 0 a rfl
  obtain ⟨v, h2, r2⟩ := e.sv 1 b rfl
  match σ, hl, h1, h2 with
  | [x, y, z], _, h1, h2 =>
    have h1 : x = some u := by simpa using h1
    have h2 : y = some v := by simpa using h2
    exact ⟨u, v, z, by rw [h1, h2], r1, r2⟩
theorem tag_of {C : Cfg} {K : PySem.W.Frag} {W : Wd} {H : Hp} {a b d : D} {u v : V} (h : sameTag a b = some d) (r1 : RD C K W H a u) (r2 : RD C K W H b v) : u = v ∧ RD C K W H d v := by
  unfold sameTag at h
  split at h
  · rename_i i a' j b'
    by_cases e : i = j
    · rw [if_pos e] at h
      subst e
      cases h
      obtain ⟨h1, _⟩ := r1
      obtain ⟨h2, q⟩ := r2
      exact ⟨Option.some.inj (h1.symm.trans h2 |> Option.some.inj |> congrArg some), q.strip⟩
    · rw [if_neg e] at h
      cases h
  · cases h
theorem atI_last {xs : List V} {y : V} : L2.atI (xs ++ [y]) (-1) = some y := by
  unfold L2.atI L2.ixN
  have h1 : ¬ (0 ≤ (-1 : Int)) := by decide
  have h2 : -(((xs ++ [y]).length : Nat) : Int) ≤ -1 := by rw [List.length_append, List.length_singleton]; omega
  rw [if_neg h1, if_pos h2]
  have h3 : ((-1 : Int) + ((xs ++ [y]).length : Nat)).toNat = xs.length := by rw [List.length_append, List.length_singleton]; omega
  rw [h3]
  show (xs ++ [y])[xs.length]? = some y
  rw [List.getElem?_append_right (Nat.le_refl _), Nat.sub_self]
  rfl
theorem dss_veryL {C : Cfg} {X : Cx} {Wx : WX} {st : List Stmt} (h : PSs X st (tVL X.K)) : DSs C X Wx st sVeryL := PSs.imp h fun D σ H q => by
  obtain ⟨W, env, s, e, q⟩ := q
  unfold sVeryL at q
  split at q
  · rename_i a b c
    split at q
    · rename_i xs hx
      by_cases hl : xs.length < sizeLine
      · rw [if_pos hl] at q
        obtain ⟨u, v, w, rfl, r1, r2⟩ := σ3 e
        obtain ⟨rfl, p, vs, rfl, _, hp, rs⟩ := tag_of hx r1 r2
        have hlen := rs.length
        have hq : D.rt (.bl true) H := q W (.bl true) H Le.refl e.st rfl
        have n1 : L2.upd H p (.lst (vs ++ [V.str " late "])) p = some (.lst (vs ++ [V.str " late "])) := upd_same
        refine ⟨_, rfl, .inl ⟨rfl, vs, SqL.of hp⟩, p, vs, _, rfl, rfl, hp, by omega, ?_⟩
        refine ⟨_, rfl, _, _, _, _, true, rfl, .ty "list", .base (.lst n1), rfl, true, rfl, ?_⟩
        refine ⟨_, rfl, _, (vs ++ [V.str " late "]).length, rfl, .inl ⟨_, SqL.of n1, rfl⟩, _, rfl, _, (vs ++ [V.str " late "]).length, rfl, .inl ⟨_, SqL.of n1, rfl⟩, rfl, true, by simp, ?_⟩
        refine ⟨_, rfl, 1, rfl, .inl ⟨p, _, _, _, rfl, rfl, SqL.of n1, atI_last, rfl, ?_⟩⟩
        rw [decide_eq_true rfl]
        refine ⟨_, rfl, .inl ⟨rfl, _, SqL.of n1⟩, p, _, V.str " late ", rfl, rfl, n1, by rw [List.length_append, List.length_singleton, Nat.add_sub_cancel, List.getElem?_append_right (Nat.le_refl _), Nat.sub_self]; rfl, ?_⟩
        rw [List.dropLast_concat, upd_back hp]
        exact ⟨_, rfl, hq⟩
      · rw [if_neg hl] at q
        exact q.elim
    · exact q.elim
  · exact q.elim
theorem dss_veryD {C : Cfg} {X : Cx} {Wx : WX} {s1 s2 s3 s4 : Stmt} (h1 : PS X s1 tV1) (h2 : PS X s2 (tV2 X.K)) (h3 : PS X s3 tV3) (h4 : PS X s4 (tRet (L2.tVar 2))) : DSs C X Wx [s1, s2, s3, s4] sVeryD := PSs.imp (show PSs X _ (tVD X.K) from pss_cons h1 (pss_cons h2 (pss_cons h3 (pss_one h4)))) fun D σ H q => by
  obtain ⟨W, env, s, e, q⟩ := q
  unfold sVeryD at q
  split at q
  · rename_i a b c
    split at q
    · rename_i ks ws hx
      split at q
      · rename_i hl
        obtain ⟨hl, hk⟩ := hl
        obtain ⟨u, v, w, rfl, r1, r2⟩ := σ3 e
        obtain ⟨rfl, p, vs, rfl, _, hp, rs⟩ := tag_of hx r1 r2
        have hq : D.rt (.bl true) H := q W (.bl true) H Le.refl e.st rfl
        rcases hp with ⟨kvs, hp, hk2, _⟩ | ⟨kvs, hp, hk2, _, hk3⟩
        · have nk : ∀ kv ∈ kvs, kv.1 ≠ (.inr " late " : Key) := fun kv hkv z => by
            have h1 := List.all_eq_true.mp hk (keyD kv.1) (by rw [hk2]; exact List.mem_map.mpr ⟨kv, hkv, rfl⟩)
            rw [z] at h1
            have h1 : (!decide ((" late " : Str) = (" late " : Str))) = true := h1
            rw [decide_eq_true rfl] at h1
            cases h1
          have an : (kvs.any fun kv => decide (kv.1 = (.inr " late " : Key))) = false := by
            rw [List.any_eq_false]
            intro kv hkv
            simp [nk kv hkv]
          have pk : L2.putK kvs (.inr " late " : Key) (V.int 7) = kvs ++ [(.inr " late ", V.int 7)] := by
            unfold L2.putK
            rw [an]
            rfl
          have hlen : kvs.length < sizeLine := by rw [hk2, List.length_map] at hl; exact hl
          have n1 : L2.upd H p (.dK (kvs ++ [(.inr " late ", V.int 7)])) p = some (.dK (kvs ++ [(.inr " late ", V.int 7)])) := upd_same
          have vl : valV (kvs ++ [((.inr " late " : Key), V.int 7)]) (.inr " late ") = some (V.int 7) := by
            unfold valV
            rw [List.find?_append, show kvs.find? (fun kv => decide (kv.1 = (.inr " late " : Key))) = none from List.find?_eq_none.mpr fun kv hkv => by simp [nk kv hkv]]
            rfl
          have dk : dropK (kvs ++ [((.inr " late " : Key), V.int 7)]) (.inr " late ") = kvs := by
            unfold dropK
            rw [List.filter_append, List.filter_eq_self.mpr fun kv hkv => by simp [nk kv hkv]]
            simp
          refine ⟨_, rfl, p, _, rfl, .inl ⟨kvs, .inr " late ", hp, rfl, hlen, rfl⟩, ?_⟩
          rw [pk]
          refine ⟨_, rfl, _, _, _, _, true, rfl, .ty "dict", .base (.dK n1), rfl, true, rfl, ?_⟩
          refine ⟨_, rfl, p, _, rfl, n1, _, rfl, p, _, rfl, n1, rfl, true, by simp, ?_⟩
          refine ⟨_, rfl, p, rfl, .inl ⟨_, .of n1⟩, _, .inl ⟨_, .inr " late ", .of n1, rfl, rfl⟩, ?_⟩
          rw [vl]
          refine ⟨rfl, ?_⟩
          show (gName 2) (.bl (decide (V.int 7 = V.int 7))) _ _ _
          rw [decide_eq_true rfl]
          refine ⟨_, rfl, p, rfl, .inl ⟨_, .of n1⟩, _, .inr " late ", V.int 7, n1, rfl, vl, ?_⟩
          rw [dk, upd_back hp]
          exact ⟨_, rfl, hq⟩
        · cases kvs with
          | nil => exact absurd rfl hk3
          | cons kv kvs =>
            rw [hk2] at hk
            have h1 := List.all_eq_true.mp hk _ (List.mem_map.mpr ⟨kv, List.mem_cons_self, rfl⟩)
            cases h1
      · exact q.elim
    · exact q.elim
  · exact q.elim
end DV
end
section
set_option Elab.async false
set_option linter.all false
set_option maxRecDepth 100000
set_option maxHeartbeats 8000000
/-! ### mirrors and derivations, printed -/
namespace K02
open PySem PySem.Spec PyProof.Rows L2 DV
def top (i : Nat) : Stmt := PySem.Challenge.pw_oneortwo_k02_whole_names_and_lots_refuse.main.body.getD i (.Pass ⟨0, 0, 0, 0⟩)
abbrev st__law_spring : Stmt := top 21
noncomputable def B__law_spring_0 : Sx :=
 (sAsg (xBin (gInt nMod) (xCall (noX (f1 gInt1)) (aCons (xBin gAdd (xBin gAdd (xBin gAdd (xBin gMul (xVar 3) (xC (.int 69069))) (xVar 5)) (xBin gMul (xC (.int 5)) (xVar 4))) (xC (.int 1))) aNil)) (xC (.int 2147483629))) (gVar 3))
noncomputable def m__law_spring : Sx :=
 (sSeq (sPar 2 3 (aCons (xIf (tVal (xBin gLt (xVar 1) (xCall (noX (f1 gLen)) (aCons (xVar 0) aNil)))) (xBin gIx (xVar 0) (xVar 1)) (xBin gAdd (xBin gMul (xC (.int 7)) (xVar 1)) (xCall (noX (f1 gLen)) (aCons (xVar 0) aNil)))) (aCons (xBin gAdd (xC (.int 1009)) (xBin gMul (xC (.int 97)) (xVar 1))) aNil)))
 (sSeq (sFor (ixEnum (aCons (xSlice (xVar 0) pNo (pAt (xC (.int 63)))) aNil)) (gUnp 2 (gsCons (gVar 4) (gsCons (gVar 5) gsNil))) B__law_spring_0)
 (sRet (xOwn (aLst (aCons (xIf (tVal (xBin gGe (xVar 2) (xBin (gInt nPow) (xC (.int 10)) (xC (.int 18))))) (xVar 2) (xC (.int 0))) (aCons (xBin (gInt nMod) (xCall (noX (f1 gInt1)) (aCons (xBin gAdd (xVar 3) (xBin gMul (xVar 2) (xC (.int 31)))) aNil)) (xC (.int 2147483647))) (aCons (xC (.int 0)) aNil))))))))
noncomputable def F__law_spring : S → List D → Out D := runDefO 2 6 m__law_spring
abbrev st__law_draw : Stmt := top 22
noncomputable def m__law_draw : Sx :=
 (sSeq (sIf (tVal (xBin gGt (xBin gIx (xVar 0) (xC (.int 0))) (xC (.int 0)))) (sSeq (sAsg (xBin (gInt nMod) (xCall (noX (f1 gInt1)) (aCons (xBin gIx (xVar 0) (xC (.int 0))) aNil)) (xVar 1)) (gVar 2))
 (sSeq (sAsg (xBin (gInt nDiv) (xBin gIx (xVar 0) (xC (.int 0))) (xVar 1)) (gSet (xVar 0) (xC (.int 0))))
 (sRet (xVar 2))))
 sNext)
 (sSeq (sAsg (xBin gAdd (xBin gIx (xVar 0) (xC (.int 2))) (xC (.int 1))) (gSet (xVar 0) (xC (.int 2))))
 (sSeq (sAsg (xBin (gInt nMod) (xBin (gInt nPow) (xCall (noX (f1 gInt1)) (aCons (xBin gAdd (xBin gAdd (xBin gIx (xVar 0) (xC (.int 1))) (xBin gMul (xC (.int 6364137)) (xBin gIx (xVar 0) (xC (.int 2))))) (xC (.int 1442695))) aNil)) (xC (.int 3))) (xC (.int 2147483647))) (gVar 3))
 (sRet (xBin (gInt nMod) (xBin (gInt nDiv) (xBin (gInt nMod) (xBin (gInt nPow) (xCall (noX (f1 gInt1)) (aCons (xBin gAdd (xBin gMul (xVar 3) (xC (.int 48271))) (xBin gMul (xC (.int 11)) (xBin gIx (xVar 0) (xC (.int 2))))) aNil)) (xC (.int 3))) (xC (.int 2147483629))) (xC (.int 8))) (xVar 1))))))
noncomputable def F__law_draw : S → List D → Out D := runDef 2 4 m__law_draw
abbrev st__law_pick : Stmt := top 23
noncomputable def m__law_pick : Sx :=
 (sRet (xBin gIx (xVar 1) (xCall F__law_draw (aCons (xVar 0) (aCons (xCall (noX (f1 gLen)) (aCons (xVar 1) aNil)) aNil)))))
noncomputable def F__law_pick : S → List D → Out D := runDef 2 2 m__law_pick
abbrev st__law_b_names : Stmt := top 28
noncomputable def B__law_b_names_0 : Sx :=
 (sAsg (xBin gAdd (xVar 3) (xCall F__law_pick (aCons (xVar 0) (aCons (xFz (aCallN (fn1 gList) (aCons (xC (.str "aehinsuxyz057")) aNil))) aNil)))) (gVar 3))
noncomputable def B__law_b_names_1 : Sx :=
 (sIf (tVal (xBin gIn (xVar 3) (xVar 2))) (sAsg (xBin gAdd (xSlice (xVar 3) pNo (pAt (xC (.int 6)))) (xVar 5)) (gVar 3))
 sNext)
noncomputable def T__law_b_names_2 : Tx :=
 (tVal (xBin gLt (xCall (noX (f1 gLen)) (aCons (xVar 2) aNil)) (xVar 1)))
noncomputable def B__law_b_names_3 : Sx :=
 (sSeq (sAsg (xCall F__law_pick (aCons (xVar 0) (aCons (xFz (aCallN (fn1 gList) (aCons (xC (.str "abgkmqvz")) aNil))) aNil))) (gVar 3))
 (sSeq (sIf (DV.tAnd (tTr (xVar 2)) (tVal (xBin gEq (xCall F__law_draw (aCons (xVar 0) (aCons (xC (.int 3)) aNil))) (xC (.int 0))))) (sAsg (xBin gAdd (xSlice (xCall F__law_pick (aCons (xVar 0) (aCons (xFz (aCallN (fn1 gList) (aCons (xVar 2) aNil))) aNil))) pNo (pAt (xC (.int 6)))) (xCall F__law_pick (aCons (xVar 0) (aCons (xFz (aLst (aCons (xC (.str "0")) (aCons (xC (.str "9")) (aCons (xC (.str "a")) (aCons (xC (.str "z")) (aCons (xC (.str "m")) aNil))))))) aNil)))) (gVar 3))
 sNext)
 (sSeq (sFor (ixRng1 (aCons (xCall F__law_draw (aCons (xVar 0) (aCons (xC (.int 4)) aNil))) aNil)) (gVar 4) B__law_b_names_0)
 (sSeq (sAsg (xSlice (xVar 3) pNo (pAt (xC (.int 7)))) (gVar 3))
 (sSeq (sFor (ixSeq (xC (.str "0123456789abcdefghijklmnopqrstuvwxyz"))) (gVar 5) B__law_b_names_1)
 (sSeq (sAsg (xIf (tVal (xBin gIn (xVar 3) (xVar 2))) (xBin gAdd (xC (.str "n")) (xCall (noX (f1 gStr)) (aCons (xCall (noX (f1 gLen)) (aCons (xVar 2) aNil)) aNil))) (xVar 3)) (gVar 3))
 (sAsg (xC (.int 1)) (gSet (xVar 2) (xVar 3)))))))))
noncomputable def m__law_b_names : Sx :=
 (sSeq (sAsg xDK (gVar 2))
 (sSeq (sWhile 1000000 T__law_b_names_2 B__law_b_names_3)
 (sRet (xFz (aCallN (fn1 gList) (aCons (xVar 2) aNil))))))
noncomputable def F__law_b_names : S → List D → Out D := runDef 2 6 m__law_b_names
abbrev st__law_mixed : Stmt := top 24
noncomputable def E__law_mixed_0 : Ex :=
 (xBm isLst mPop (xVar 2) (aCons (xCall F__law_draw (aCons (xVar 0) (aCons (xCall (noX (f1 gLen)) (aCons (xVar 2) aNil)) aNil))) aNil))
noncomputable def m__law_mixed : Sx :=
 (sSeq (sAsg (xOwn (aCallN (fn1 gList) (aCons (xVar 1) aNil))) (gVar 2))
 (sRet (xFz (aComp (ixRng1 (aCons (xCall (noX (f1 gLen)) (aCons (xVar 2) aNil)) aNil)) (.one 3) tAll E__law_mixed_0 [3]))))
noncomputable def F__law_mixed : S → List D → Out D := runDef 2 4 m__law_mixed
abbrev st__law_b_bits : Stmt := top 30
noncomputable def E__law_b_bits_0 : Ex :=
 (xBin gAdd (xVar 3) (xFz (aLst (aCons (xVar 2) aNil))))
noncomputable def B__law_b_bits_1 : Sx :=
 (sAsg (xBin gAdd (xVar 1) (xFz (aComp (ixSeq (xVar 1)) (.one 3) tAll E__law_b_bits_0 [3]))) (gVar 1))
noncomputable def m__law_b_bits : Sx :=
 (sSeq (sAsg (xFz (aLst (aCons (xFz (aLst aNil)) aNil))) (gVar 1))
 (sSeq (sFor (ixRng1 (aCons (xVar 0) aNil)) (gVar 2) B__law_b_bits_1)
 (sRet (xVar 1))))
noncomputable def F__law_b_bits : S → List D → Out D := runDef 1 4 m__law_b_bits
abbrev st__law_b_det : Stmt := top 29
noncomputable def E__law_b_det_0 : Ex :=
 (xFz (aCallN (fn1 gList) (aCons (xVar 8) aNil)))
noncomputable def T__law_b_det_1 : Tx :=
 (tVal (xBin gNe (xBin gIx (xBin gIx (xVar 1) (xVar 7)) (xVar 4)) (xC (.int 0))))
noncomputable def E__law_b_det_2 : Ex :=
 (xVar 7)
noncomputable def E__law_b_det_3 : Ex :=
 (xBin (gInt nDiv) (xBin (gInt nSub) (xBin gMul (xBin gIx (xVar 8) (xVar 9)) (xBin gIx (xVar 6) (xVar 4))) (xBin gMul (xBin gIx (xVar 8) (xVar 4)) (xBin gIx (xVar 6) (xVar 9)))) (xVar 3))
noncomputable def B__law_b_det_4 : Sx :=
 (sSeq (sAsg (xBin gIx (xVar 1) (xVar 7)) (gVar 8))
 (sAsg (xFz (aComp (ixRng1 (aCons (xCall (noX (f1 gLen)) (aCons (xVar 8) aNil)) aNil)) (.one 9) tAll E__law_b_det_3 [9])) (gSet (xVar 1) (xVar 7))))
noncomputable def B__law_b_det_5 : Sx :=
 (sSeq (sAsg (xFz (aComp (ixRng2 (aCons (xVar 4) (aCons (xCall (noX (f1 gLen)) (aCons (xVar 1) aNil)) aNil))) (.one 7) T__law_b_det_1 E__law_b_det_2 [7])) (gVar 5))
 (sSeq (sIf (DV.tNot (tTr (xVar 5))) (sRet (xC (.int 0)))
 sNext)
 (sSeq (sIf (tVal (xBin gNe (xBin gIx (xVar 5) (xC (.int 0))) (xVar 4))) (sSeq (sAsg (xTup (aCons (xBin gIx (xVar 1) (xBin gIx (xVar 5) (xC (.int 0)))) (aCons (xBin gIx (xVar 1) (xVar 4)) aNil))) (gUnp 2 (gsCons (gSet (xVar 1) (xVar 4)) (gsCons (gSet (xVar 1) (xBin gIx (xVar 5) (xC (.int 0)))) gsNil))))
 (sAsg (xUn gNeg (xVar 2)) (gVar 2)))
 sNext)
 (sSeq (sAsg (xBin gIx (xVar 1) (xVar 4)) (gVar 6))
 (sSeq (sFor (ixRng2 (aCons (xBin gAdd (xVar 4) (xC (.int 1))) (aCons (xCall (noX (f1 gLen)) (aCons (xVar 1) aNil)) aNil))) (gVar 7) B__law_b_det_4)
 (sAsg (xBin gIx (xVar 6) (xVar 4)) (gVar 3)))))))
noncomputable def m__law_b_det : Sx :=
 (sSeq (sAsg (xTup (aCons (xOwn (aComp (ixSeq (xVar 0)) (.one 8) tAll E__law_b_det_0 [8])) (aCons (xC (.int 1)) (aCons (xC (.int 1)) aNil)))) (gUnp 3 (gsCons (gVar 1) (gsCons (gVar 2) (gsCons (gVar 3) gsNil)))))
 (sSeq (sFor (ixRng1 (aCons (xCall (noX (f1 gLen)) (aCons (xVar 1) aNil)) aNil)) (gVar 4) B__law_b_det_5)
 (sRet (xBin gMul (xVar 2) (xVar 3)))))
noncomputable def F__law_b_det : S → List D → Out D := runDef 1 10 m__law_b_det
abbrev st__law_b_shape : Stmt := top 31
noncomputable def T__law_b_shape_0 : Tx :=
 (tVal (xBin gEq (xCall F__law_draw (aCons (xVar 0) (aCons (xCall F__law_pick (aCons (xVar 0) (aCons (xFz (aLst (aCons (xC (.int 2)) (aCons (xC (.int 3)) (aCons (xC (.int 6)) aNil))))) aNil))) aNil))) (xC (.int 0))))
noncomputable def E__law_b_shape_1 : Ex :=
 (xVar 14)
noncomputable def B__law_b_shape_2 : Sx :=
 (sSeq (sAsg (xIf (DV.tAnd (tTr (xVar 7)) (tVal (xBin gEq (xVar 8) (xVar 9)))) (xC (.int 0)) (xBin (gInt nSub) (xCall F__law_draw (aCons (xVar 0) (aCons (xBin gAdd (xBin gMul (xC (.int 2)) (xVar 4)) (xC (.int 1))) aNil))) (xVar 4))) (gVar 10))
 (sAsg (xTup (aCons (xVar 10) (aCons (xIf (DV.tOr (tVal (xBin gEq (xVar 8) (xVar 9))) (DV.tNot (tTr (xVar 7)))) (xVar 10) (xUn gNeg (xVar 10))) aNil))) (gUnp 2 (gsCons (gSet (xVar 6) (xTup (aCons (xVar 8) (aCons (xVar 9) aNil)))) (gsCons (gSet (xVar 6) (xTup (aCons (xVar 9) (aCons (xVar 8) aNil)))) gsNil)))))
noncomputable def B__law_b_shape_3 : Sx :=
 (sFor (ixRng2 (aCons (xVar 8) (aCons (xVar 1) aNil))) (gVar 9) B__law_b_shape_2)
noncomputable def E__law_b_shape_4 : Ex :=
 (xBin gIx (xVar 6) (xTup (aCons (xVar 8) (aCons (xVar 9) aNil))))
noncomputable def E__law_b_shape_5 : Ex :=
 (xFz (aComp (ixSeq (xVar 14)) (.one 9) tAll E__law_b_shape_4 [9]))
noncomputable def T__law_b_shape_6 : Tx :=
 (tVal (xBin gNe (xCall F__law_b_det (aCons (xFz (aComp (ixSeq (xVar 14)) (.one 8) tAll E__law_b_shape_5 [8])) aNil)) (xC (.int 0))))
noncomputable def E__law_b_shape_7 : Ex :=
 (xVar 14)
noncomputable def T__law_b_shape_8 : Tx :=
 (tVal (xBin gNe (xVar 14) (xVar 11)))
noncomputable def E__law_b_shape_9 : Ex :=
 (xVar 14)
noncomputable def T__law_b_shape_10 : Tx :=
 (tVal (xBin gIn (xCall (noX (f1 gLen)) (aCons (xVar 14) aNil)) (xVar 12)))
noncomputable def E__law_b_shape_11 : Ex :=
 (xVar 14)
noncomputable def T__law_b_shape_12 : Tx :=
 (tVal (xBin gNe (xBin gIn (xVar 15) (xVar 14)) (xBin gIn (xVar 15) (xVar 13))))
noncomputable def E__law_b_shape_13 : Ex :=
 (xVar 15)
noncomputable def E__law_b_shape_14 : Ex :=
 (xFz (aCallN (fn1 gSorted) (aCons (xFz (aComp (ixRng1 (aCons (xVar 1) aNil)) (.one 15) T__law_b_shape_12 E__law_b_shape_13 [15])) aNil)))
noncomputable def m__law_b_shape : Sx :=
 (sSeq (sPar3 2 3 4 (aCons (xCall F__law_b_bits (aCons (xVar 1) aNil)) (aCons (xCall F__law_draw (aCons (xVar 0) (aCons (xC (.int 6)) aNil))) (aCons (xCall F__law_pick (aCons (xVar 0) (aCons (xFz (aLst (aCons (xC (.int 1)) (aCons (xC (.int 1)) (aCons (xC (.int 2)) (aCons (xC (.int 9)) aNil)))))) aNil))) aNil))))
 (sSeq (sAsg (xFz (aComp (ixSeq (xVar 2)) (.one 14) T__law_b_shape_0 E__law_b_shape_1 [14])) (gVar 5))
 (sSeq (sIf (tVal (xBin gIn (xVar 3) (xFz (aLst (aCons (xC (.int 1)) (aCons (xC (.int 2)) (aCons (xC (.int 3)) aNil))))))) (sSeq (sAsg (xTup (aCons xDT (aCons (xBin gGt (xCall F__law_draw (aCons (xVar 0) (aCons (xC (.int 2)) aNil))) (xC (.int 0))) aNil))) (gUnp 2 (gsCons (gVar 6) (gsCons (gVar 7) gsNil))))
 (sSeq (sFor (ixRng1 (aCons (xVar 1) aNil)) (gVar 8) B__law_b_shape_3)
 (sSeq (sAsg (xFz (aComp (ixSeq (xVar 2)) (.one 14) T__law_b_shape_6 E__law_b_shape_7 [14])) (gVar 5))
 (sIf (tVal (xBin gEq (xVar 3) (xC (.int 3)))) (sSeq (sAsg (xCall F__law_pick (aCons (xVar 0) (aCons (xVar 5) aNil))) (gVar 11))
 (sAsg (xOrT (xFz (aComp (ixSeq (xVar 5)) (.one 14) T__law_b_shape_8 E__law_b_shape_9 [14])) (xVar 5)) (gVar 5)))
 sNext))))
 sNext)
 (sSeq (sIf (tVal (xBin gEq (xVar 3) (xC (.int 4)))) (sSeq (sAsg (xFz (aLst (aCons (xCall F__law_draw (aCons (xVar 0) (aCons (xBin gAdd (xVar 1) (xC (.int 1))) aNil))) (aCons (xCall F__law_draw (aCons (xVar 0) (aCons (xBin gAdd (xVar 1) (xC (.int 1))) aNil))) aNil)))) (gVar 12))
 (sAsg (xFz (aComp (ixSeq (xVar 2)) (.one 14) T__law_b_shape_10 E__law_b_shape_11 [14])) (gVar 5)))
 sNext)
 (sSeq (sAsg (xCall F__law_pick (aCons (xVar 0) (aCons (xVar 2) aNil))) (gVar 13))
 (sSeq (sAsg (xFz (aComp (ixSeq (xVar 5)) (.one 14) tAll E__law_b_shape_14 [14])) (gVar 5))
 (sRet (xOrT (xVar 5) (xFz (aLst (aCons (xVar 13) aNil)))))))))))
noncomputable def F__law_b_shape : S → List D → Out D := runDef 2 16 m__law_b_shape
abbrev st__law_b_drawn : Stmt := top 32
noncomputable def E__law_b_drawn_0 : Ex :=
 (xBin gIx (xVar 2) (xVar 5))
noncomputable def E__law_b_drawn_1 : Ex :=
 (xFz (aComp (ixSeq (xVar 4)) (.one 5) tAll E__law_b_drawn_0 [5]))
noncomputable def m__law_b_drawn : Sx :=
 (sSeq (sAsg (xFz (aCallN (fn1 gSorted) (aCons (xCall F__law_b_names (aCons (xVar 0) (aCons (xVar 1) aNil))) aNil))) (gVar 2))
 (sSeq (sAsg (xFz (aComp (ixSeq (xCall F__law_b_shape (aCons (xVar 0) (aCons (xVar 1) aNil)))) (.one 4) tAll E__law_b_drawn_1 [4])) (gVar 3))
 (sRet (xTup (aCons (xCall F__law_mixed (aCons (xVar 0) (aCons (xVar 2) aNil))) (aCons (xCall F__law_mixed (aCons (xVar 0) (aCons (xVar 3) aNil))) aNil))))))
noncomputable def F__law_b_drawn : S → List D → Out D := runDef 2 6 m__law_b_drawn
abbrev st__law_f_name : Stmt := top 38
noncomputable def E__law_f_name_0 : Ex :=
 (xBin gIn (xVar 1) (xC (.str "abcdefghijklmnopqrstuvwxyz0123456789")))
noncomputable def m__law_f_name : Sx :=
 (sSeq (sIf (DV.tOr (DV.tNot (tTr (xUn (gIsi (tbOf ["str"]) fun _ => none) (xVar 0)))) (DV.tOr (DV.tNot (tVal (xChain gLe gLe (xC (.int 1)) (xCall (noX (f1 gLen)) (aCons (xVar 0) aNil)) (xC (.int 8))))) (tVal (xBin gNotIn (xBin gIx (xVar 0) (xC (.int 0))) (xC (.str "abcdefghijklmnopqrstuvwxyz")))))) (sRet (xC (.bl false)))
 sNext)
 (sRet (xCall (noX (f1 gAll)) (aCons (xFz (aComp (ixSeq (xVar 0)) (.one 1) tAll E__law_f_name_0 [1])) aNil))))
noncomputable def F__law_f_name : S → List D → Out D := runDef 1 2 m__law_f_name
abbrev st__law_f_names : Stmt := top 39
noncomputable def E__law_f_names_0 : Ex :=
 (xCall F__law_f_name (aCons (xVar 1) aNil))
noncomputable def E__law_f_names_1 : Ex :=
 (xTup (aCons (xVar 1) (aCons (xC (.int 1)) aNil)))
noncomputable def m__law_f_names : Sx :=
 (sSeq (sIf (DV.tOr (DV.tNot (tTr (xUn (gIsi (tbOf ["list", "tuple"]) fun _ => none) (xVar 0)))) (DV.tOr (DV.tNot (tVal (xChain gLe gLe (xC (.int 1)) (xCall (noX (f1 gLen)) (aCons (xVar 0) aNil)) (xC (.int 8))))) (DV.tNot (tTr (xCall (noX (f1 gAll)) (aCons (xFz (aComp (ixSeq (xVar 0)) (.one 1) tAll E__law_f_names_0 [1])) aNil)))))) (sRet (xC (.bl false)))
 sNext)
 (sRet (xBin gEq (xCall (noX (f1 gLen)) (aCons (xCall (noX (f1 gDict)) (aCons (xFz (aComp (ixSeq (xVar 0)) (.one 1) tAll E__law_f_names_1 [1])) aNil)) aNil)) (xCall (noX (f1 gLen)) (aCons (xVar 0) aNil)))))
noncomputable def F__law_f_names : S → List D → Out D := runDef 1 2 m__law_f_names
abbrev st__law_b_some : Stmt := top 36
noncomputable def T__law_b_some_0 : Tx :=
 (tVal (xBin gGt (xCall F__law_draw (aCons (xVar 0) (aCons (xC (.int 2)) aNil))) (xC (.int 0))))
noncomputable def E__law_b_some_1 : Ex :=
 (xVar 2)
noncomputable def m__law_b_some : Sx :=
 (sRet (xFz (aCallN (fn1 gSorted) (aCons (xFz (aComp (ixSeq (xVar 1)) (.one 2) T__law_b_some_0 E__law_b_some_1 [2])) aNil))))
noncomputable def F__law_b_some : S → List D → Out D := runDef 2 3 m__law_b_some
abbrev st__law_b_lot : Stmt := top 33
noncomputable def E__law_b_lot_0 : Ex :=
 (xAndT (xUn (gIsi (tbOf ["str"]) fun _ => none) (xVar 2)) (xBin gIn (xVar 2) (xVar 0)))
noncomputable def E__law_b_lot_1 : Ex :=
 (xBin gLt (xVar 2) (xVar 3))
noncomputable def m__law_b_lot : Sx :=
 (sSeq (sIf (DV.tOr (DV.tNot (tTr (xUn (gIsi (tbOf ["list", "tuple"]) fun _ => none) (xVar 1)))) (DV.tNot (tTr (xCall (noX (f1 gAll)) (aCons (xFz (aComp (ixSeq (xVar 1)) (.one 2) tAll E__law_b_lot_0 [2])) aNil))))) (sRet (xC (.bl false)))
 sNext)
 (sRet (xCall (noX (f1 gAll)) (aCons (xFz (aComp (ixZip (aCons (xVar 1) (aCons (xSlice (xVar 1) (pAt (xC (.int 1))) pNo) aNil))) (.many [2, 3]) tAll E__law_b_lot_1 [2, 3])) aNil))))
noncomputable def F__law_b_lot : S → List D → Out D := runDef 2 4 m__law_b_lot
abbrev st__law_f_lots : Stmt := top 40
noncomputable def E__law_f_lots_0 : Ex :=
 (xCall F__law_b_lot (aCons (xVar 0) (aCons (xVar 2) aNil)))
noncomputable def E__law_f_lots_1 : Ex :=
 (xTup (aCons (xCall (noX (f1 gTuple)) (aCons (xVar 2) aNil)) (aCons (xC (.int 1)) aNil)))
noncomputable def m__law_f_lots : Sx :=
 (sSeq (sIf (DV.tOr (DV.tNot (tTr (xUn (gIsi (tbOf ["list", "tuple"]) fun _ => none) (xVar 1)))) (DV.tOr (tVal (xBin gEq (xCall (noX (f1 gLen)) (aCons (xVar 1) aNil)) (xC (.int 0)))) (DV.tNot (tTr (xCall (noX (f1 gAll)) (aCons (xFz (aComp (ixSeq (xVar 1)) (.one 2) tAll E__law_f_lots_0 [2])) aNil)))))) (sRet (xC (.bl false)))
 sNext)
 (sRet (xBin gEq (xCall (noX (f1 gLen)) (aCons (xCall (noX (f1 gDict)) (aCons (xFz (aComp (ixSeq (xVar 1)) (.one 2) tAll E__law_f_lots_1 [2])) aNil)) aNil)) (xCall (noX (f1 gLen)) (aCons (xVar 1) aNil)))))
noncomputable def F__law_f_lots : S → List D → Out D := runDef 2 3 m__law_f_lots
abbrev st__law_f_met : Stmt := top 37
noncomputable def m__law_f_met (i : Nat) (q : S → Out D) : Sx :=
 (sSeq (sTryF 1 [0, 1] [(0, "names", "given"), (1, "lots", "given")]
 (sExpr (xAct 0 i q)))
 (sRet (xFz (aLst (aCons (xC (.str "let")) (aCons (xC .non) aNil))))))
abbrev st_is_list : Stmt := top 4
noncomputable def m_is_list : Sx :=
 (sRet (xUn (gIsi (tbOf ["list", "tuple"]) fun _ => none) (xVar 0)))
noncomputable def F_is_list : S → List D → Out D := runDef 1 1 m_is_list
abbrev st_is_lot : Stmt := top 13
noncomputable def E_is_lot_0 : Ex :=
 (xAndT (xUn (gIsi (tbOf ["str"]) fun _ => none) (xVar 3)) (xBin gIn (xVar 3) (xVar 0)))
noncomputable def E_is_lot_1 : Ex :=
 (xBin gLt (xBin gIx (xVar 1) (xBin (gInt nSub) (xVar 2) (xC (.int 1)))) (xBin gIx (xVar 1) (xVar 2)))
noncomputable def m_is_lot : Sx :=
 (sSeq (sIf (DV.tOr (DV.tNot (tTr (xCall F_is_list (aCons (xVar 1) aNil)))) (DV.tNot (tTr (xCall (noX (f1 gAll)) (aCons (xFz (aComp (ixSeq (xVar 1)) (.one 3) tAll E_is_lot_0 [3])) aNil))))) (sRet (xC (.bl false)))
 sNext)
 (sRet (xCall (noX (f1 gAll)) (aCons (xFz (aComp (ixRng2 (aCons (xC (.int 1)) (aCons (xCall (noX (f1 gLen)) (aCons (xVar 1) aNil)) aNil))) (.one 2) tAll E_is_lot_1 [2])) aNil))))
noncomputable def F_is_lot : S → List D → Out D := runDef 2 4 m_is_lot
abbrev st_are_right_lots : Stmt := top 14
noncomputable def E_are_right_lots_0 : Ex :=
 (xCall F_is_lot (aCons (xVar 0) (aCons (xVar 2) aNil)))
noncomputable def E_are_right_lots_1 : Ex :=
 (xCall (noX (f1 gTuple)) (aCons (xVar 2) aNil))
noncomputable def E_are_right_lots_2 : Ex :=
 (xC (.bl true))
noncomputable def m_are_right_lots : Sx :=
 (sSeq (sIf (DV.tOr (DV.tNot (tTr (xCall F_is_list (aCons (xVar 1) aNil)))) (DV.tOr (tVal (xBin gEq (xCall (noX (f1 gLen)) (aCons (xVar 1) aNil)) (xC (.int 0)))) (DV.tNot (tTr (xCall (noX (f1 gAll)) (aCons (xFz (aComp (ixSeq (xVar 1)) (.one 2) tAll E_are_right_lots_0 [2])) aNil)))))) (sRet (xC (.bl false)))
 sNext)
 (sRet (xBin gEq (xCall (noX (f1 gLen)) (aCons (xDcT (ixSeq (xVar 1)) (.one 2) tAll E_are_right_lots_1 E_are_right_lots_2 [2]) aNil)) (xCall (noX (f1 gLen)) (aCons (xVar 1) aNil)))))
noncomputable def F_are_right_lots : S → List D → Out D := runDef 2 3 m_are_right_lots
abbrev st_is_name : Stmt := top 5
noncomputable def E_is_name_0 : Ex :=
 (xBin gIn (xVar 1) (xC (.str "abcdefghijklmnopqrstuvwxyz0123456789")))
noncomputable def m_is_name : Sx :=
 (sSeq (sIf (DV.tOr (DV.tNot (tTr (xUn (gIsi (tbOf ["str"]) fun _ => none) (xVar 0)))) (DV.tNot (tVal (xChain gLe gLe (xC (.int 1)) (xCall (noX (f1 gLen)) (aCons (xVar 0) aNil)) (xC (.int 8)))))) (sRet (xC (.bl false)))
 sNext)
 (sSeq (sIf (tVal (xBin gNotIn (xBin gIx (xVar 0) (xC (.int 0))) (xC (.str "abcdefghijklmnopqrstuvwxyz")))) (sRet (xC (.bl false)))
 sNext)
 (sRet (xCall (noX (f1 gAll)) (aCons (xFz (aComp (ixSeq (xVar 0)) (.one 1) tAll E_is_name_0 [1])) aNil)))))
noncomputable def F_is_name : S → List D → Out D := runDef 1 2 m_is_name
abbrev st_are_names : Stmt := top 12
noncomputable def E_are_names_0 : Ex :=
 (xCall F_is_name (aCons (xVar 1) aNil))
noncomputable def E_are_names_1 : Ex :=
 (xVar 1)
noncomputable def E_are_names_2 : Ex :=
 (xC (.bl true))
noncomputable def m_are_names : Sx :=
 (sSeq (sIf (DV.tOr (DV.tNot (tTr (xCall F_is_list (aCons (xVar 0) aNil)))) (DV.tOr (DV.tNot (tVal (xChain gLe gLe (xC (.int 1)) (xCall (noX (f1 gLen)) (aCons (xVar 0) aNil)) (xC (.int 8))))) (DV.tNot (tTr (xCall (noX (f1 gAll)) (aCons (xFz (aComp (ixSeq (xVar 0)) (.one 1) tAll E_are_names_0 [1])) aNil)))))) (sRet (xC (.bl false)))
 sNext)
 (sRet (xBin gEq (xCall (noX (f1 gLen)) (aCons (xDcK (ixSeq (xVar 0)) (.one 1) tAll E_are_names_1 E_are_names_2 [1]) aNil)) (xCall (noX (f1 gLen)) (aCons (xVar 0) aNil)))))
noncomputable def F_are_names : S → List D → Out D := runDef 1 2 m_are_names
abbrev st_are_lots : Stmt := top 15
noncomputable def m_are_lots : Sx :=
 (sSeq (sIf (DV.tNot (tTr (xCall F_are_names (aCons (xVar 0) aNil)))) (sRaise 0 (xVar 0))
 sNext)
 (sRet (xCall F_are_right_lots (aCons (xFz (aCallN (fn1 gList) (aCons (xVar 0) aNil))) (aCons (xVar 1) aNil)))))
noncomputable def F_are_lots : S → List D → Out D := runDef 2 2 m_are_lots
abbrev st__law_same : Stmt := top 26
noncomputable def G__law_same : Nat → S → List D → Out D
 | 0 => fun _ _ => .stuck
 | n + 1 => runDef 2 5 (
 (sSeq (sIf (tTr (xUn (gIsi (tbOf ["dict"]) fun _ => none) (xVar 1))) (sRet (xAndT (xUn (gIsi (tbOf ["dict"]) fun _ => none) (xVar 0)) (xCall (G__law_same n) (aCons (xFz (aCallN (fn1 gList) (aCons xStuck aNil))) (aCons (xFz (aCallN (fn1 gList) (aCons xStuck aNil))) aNil)))))
 sNext)
 (sSeq (sIf (tTr (xUn (gIsi (tbOf ["list", "tuple"]) fun _ => none) (xVar 1))) (sSeq (sIf (DV.tOr (tVal (xBin gNe (xUn (gIsi (tbOf ["list"]) fun _ => none) (xVar 0)) (xUn (gIsi (tbOf ["list"]) fun _ => none) (xVar 1)))) (tVal (xBin gNe (xUn (gIsi (tbOf ["tuple"]) fun _ => none) (xVar 0)) (xUn (gIsi (tbOf ["tuple"]) fun _ => none) (xVar 1))))) (sRet (xC (.bl false)))
 sNext)
 (sRet (xAndT (xBin gEq (xCall (noX (f1 gLen)) (aCons (xVar 0) aNil)) (xCall (noX (f1 gLen)) (aCons (xVar 1) aNil))) (xCall (noX (f1 gAll)) (aCons (xFz (aComp (ixZip (aCons (xVar 0) (aCons (xVar 1) aNil))) (.many [3, 4]) tAll (xCall (G__law_same n) (aCons (xVar 3) (aCons (xVar 4) aNil))) [3, 4])) aNil)))))
 sNext)
 (sSeq (sAsg (xAndT (xBin gEq (xUn (gIsi (tbOf ["bool"]) fun _ => none) (xVar 0)) (xUn (gIsi (tbOf ["bool"]) fun _ => none) (xVar 1))) (xBin gEq (xUn (gIsi (tbOf ["int"]) fun _ => none) (xVar 0)) (xUn (gIsi (tbOf ["int"]) fun _ => none) (xVar 1)))) (gVar 2))
 (sSeq (sIf (DV.tOr (tTr (xUn (gIsi (tbOf ["dict", "list", "tuple"]) fun _ => none) (xVar 0))) (DV.tOr (DV.tNot (tTr (xVar 2))) (tVal (xBin gNe (xUn (gIsi (tbOf ["str"]) fun _ => none) (xVar 0)) (xUn (gIsi (tbOf ["str"]) fun _ => none) (xVar 1)))))) (sRet (xC (.bl false)))
 sNext)
 (sRet (xIf (tVal (xBin gIsN (xVar 1) (xC .non))) (xBin gIsN (xVar 0) (xC .non)) (xBin gEq (xVar 0) (xVar 1)))))))))
noncomputable def F__law_same : S → List D → Out D := G__law_same 12
abbrev st_check_names : Stmt := top 16
noncomputable def m_check_names : Sx :=
 (sIf (DV.tNot (tTr (xCall F_are_names (aCons (xVar 0) aNil)))) (sRaise 0 (xVar 0))
 sNext)
noncomputable def F_check_names : S → List D → Out D := runDef 1 1 m_check_names
abbrev st_mask_of : Stmt := top 17
noncomputable def B_mask_of_0 : Sx :=
 (sIf (tVal (xBin gIn (xVar 4) (xVar 1))) (sAug 2 (gInt fun i j => some (.int (i + j))) (xBin (gInt nShl) (xC (.int 1)) (xVar 3)))
 sNext)
noncomputable def m_mask_of : Sx :=
 (sSeq (sAsg (xC (.int 0)) (gVar 2))
 (sSeq (sFor (ixEnum (aCons (xVar 0) aNil)) (gUnp 2 (gsCons (gVar 3) (gsCons (gVar 4) gsNil))) B_mask_of_0)
 (sRet (xVar 2))))
noncomputable def F_mask_of : S → List D → Out D := runDef 2 5 m_mask_of
abbrev st_Family___init__ : Stmt := inCls (top 19) 0
noncomputable def E_Family___init___0 : Ex :=
 (xCall F_mask_of (aCons (xVar 3) (aCons (xVar 4) aNil)))
noncomputable def m_Family___init__ : Sx :=
 (sSeq (sExpr (xCall F_check_names (aCons (xVar 1) aNil)))
 (sSeq (sAsg (xFz (aCallN (fn1 gSorted) (aCons (xVar 1) aNil))) (gVar 3))
 (sSeq (sIf (DV.tNot (tTr (xCall F_are_right_lots (aCons (xVar 3) (aCons (xVar 2) aNil))))) (sRaise 1 (xVar 2))
 sNext)
 (sSeq (sFldS (ix1 2 0) (xVar 0) (xVar 3))
 (sFldS (ix1 2 1) (xVar 0) (xFz (aCallN (fn1 gSorted) (aCons (xFz (aComp (ixSeq (xVar 2)) (.one 4) tAll E_Family___init___0 [4])) aNil))))))))
noncomputable def F_Family___init__ : S → List D → Out D := runDef 3 5 m_Family___init__
abbrev st__law_very : Stmt := top 25
noncomputable def m__law_very : Sx :=
 (sSeq (sIf (tTr (xUn (gIsi (tbOf ["list"]) fun _ => none) (xVar 1))) sVeryL
 sNext)
 (sSeq (sIf (tTr (xUn (gIsi (tbOf ["dict"]) fun _ => none) (xVar 1))) sVeryD
 sNext)
 (sSeq (sIf (DV.tOr (tTr (xUn (gIsi (tbOf ["tuple", "str", "bool", "int"]) fun _ => none) (xVar 1))) (tVal (xBin gIsN (xVar 1) (xC .non)))) (sRet (xCall F__law_same (aCons (xVar 0) (aCons (xVar 1) aNil))))
 sNext)
 (sRet (xBin gEq (xVar 0) (xVar 1))))))
noncomputable def F__law_very : S → List D → Out D := runDef 2 3 m__law_very
abbrev st_law : Stmt := top 41
def L_law_0 : LamT := Subtype.val (⟨⟨_, _, _, [1]⟩, rfl⟩ : { L : LamT // L = lamOf (eAt (sVal (sAt (sBody (sAt (sBody (sAt (defBody st_law) 0)) 6)) 2)) 0) [1] })
def L_law_1 : LamT := Subtype.val (⟨⟨_, _, _, [2]⟩, rfl⟩ : { L : LamT // L = lamOf (eAt (sVal (sAt (sBody (sAt (sBody (sAt (defBody st_law) 0)) 6)) 2)) 1) [2] })
def L_law_2 : LamT := Subtype.val (⟨⟨_, _, _, []⟩, rfl⟩ : { L : LamT // L = lamOf (eAt (sVal (sAt (sBody (sAt (sBody (sAt (defBody st_law) 0)) 10)) 2)) 1) [] })
def L_law_3 : LamT := Subtype.val (⟨⟨_, _, _, []⟩, rfl⟩ : { L : LamT // L = lamOf (eAt (eAt (eAt (sVal (sAt (sBody (sAt (sBody (sAt (defBody st_law) 0)) 10)) 4)) 0) 0) 1) [] })
def tab_law (i : Nat) : Option LamT := ([L_law_0, L_law_1, L_law_2, L_law_3] : List LamT)[i]?
noncomputable def fb_law_0 : Ex := (xCall (runMake 2 2 F_Family___init__) (aCons (xVar 9) (aCons (xC .non) aNil)))
noncomputable def fb_law_1 : Ex := (xCall F_are_lots (aCons (xVar 9) (aCons (xC .non) aNil)))
noncomputable def fb_law_2 : Ex := (xCall (runMake 2 2 F_Family___init__) (aCons (xFz (aCallN (fn1 gList) (aCons (xVar 3) aNil))) (aCons (xVar 9) aNil)))
noncomputable def fb_law_3 : Ex := (xCallK 0 2 [1, 0] (runMake 2 2 F_Family___init__) aNil (aCons (xVar 9) (aCons (xFz (aCallN (fn1 gList) (aCons (xVar 3) aNil))) aNil)))
noncomputable def fbs_law (i : Nat) : Ex := match i with
  | 0 => fun e s => fb_law_0 (wipeE e [14]) s
  | 1 => fun e s => fb_law_1 (wipeE e []) s
  | 2 => fun e s => fb_law_2 (wipeE e []) s
  | 3 => fun e s => fb_law_3 (wipeE e []) s
  | _ => fun _ _ => .stuck
noncomputable def E_law_0 : Ex :=
 (xBin gAdd (xC (.str "n")) (xCall (noX (f1 gStr)) (aCons (xVar 18) aNil)))
noncomputable def E_law_1 : Ex :=
 (xBin gAdd (xC (.str "n")) (xCall (noX (f1 gStr)) (aCons (xVar 18) aNil)))
noncomputable def E_law_2 : Ex :=
 (xFz (aComp (ixRng1 (aCons (xVar 17) aNil)) (.one 18) tAll E_law_1 [18]))
noncomputable def B_law_3 : Sx :=
 (sExpr (xBm isLst mAppend (xVar 7) (aCons (xBin gAdd (xBin gAdd (xSlice (xVar 3) pNo (pAt (xVar 5))) (xFz (aLst (aCons (xVar 8) aNil)))) (xSlice (xVar 3) (pAt (xBin gAdd (xVar 5) (xC (.int 1)))) pNo)) aNil)))
noncomputable def B_law_4 : Sx :=
 (sIf (DV.tNot (tTr (xVar 10))) (sSeq (sAsg (xMet m__law_f_met 1 2 fbs_law (aCons (xVar 11) aNil)) (gUnp 2 (gsCons (gVar 12) (gsCons (gVar 13) gsNil))))
 (sIf (DV.tOr (tVal (xBin gNe (xVar 12) (xC (.str "names")))) (DV.tNot (tTr (xCall F__law_very (aCons (xVar 13) (aCons (xVar 9) aNil)))))) (sRet (xC (.bl false)))
 sNext))
 sNext)
noncomputable def B_law_5 : Sx :=
 (sSeq (sAsg (xCall F__law_f_names (aCons (xVar 9) aNil)) (gVar 10))
 (sSeq (sIf (DV.tNot (tTr (xCall F__law_same (aCons (xFz (aLst (aCons (xCall F_are_names (aCons (xVar 9) aNil)) (aCons (xCallK 0 1 [0] F_are_names aNil (aCons (xVar 9) aNil)) aNil)))) (aCons (xFz (aLst (aCons (xVar 10) (aCons (xVar 10) aNil)))) aNil))))) (sRet (xC (.bl false)))
 sNext)
 (sFor (ixSeq (xFz (aLst (aCons (xLam 0) (aCons (xLam 1) aNil))))) (gVar 11) B_law_4)))
noncomputable def E_law_6 : Ex :=
 (xCall (noX (f1 gTuple)) (aCons (xVar 16) aNil))
noncomputable def B_law_7 : Sx :=
 (sExpr (xBm isLst mAppend (xVar 7) (aCons (xBin gAdd (xBin gAdd (xSlice (xVar 4) pNo (pAt (xVar 6))) (xFz (aLst (aCons (xVar 16) aNil)))) (xSlice (xVar 4) (pAt (xVar 6)) pNo)) aNil)))
noncomputable def B_law_8 : Sx :=
 (sSeq (sAsg (xCall F__law_f_lots (aCons (xVar 3) (aCons (xVar 9) aNil))) (gVar 10))
 (sSeq (sIf (DV.tNot (tTr (xCall F__law_same (aCons (xFz (aLst (aCons (xCall F_are_lots (aCons (xFz (aCallN (fn1 gList) (aCons (xVar 3) aNil))) (aCons (xVar 9) aNil))) (aCons (xCallK 0 2 [1, 0] F_are_lots aNil (aCons (xVar 9) (aCons (xCall (noX (f1 gTuple)) (aCons (xVar 3) aNil)) aNil))) aNil)))) (aCons (xFz (aLst (aCons (xVar 10) (aCons (xVar 10) aNil)))) aNil))))) (sRet (xC (.bl false)))
 sNext)
 (sSeq (sAsg (xMet m__law_f_met 1 2 fbs_law (aCons (xLam 2) aNil)) (gUnp 2 (gsCons (gVar 12) (gsCons (gVar 13) gsNil))))
 (sSeq (sIf (DV.tOr (tVal (xBin gNe (xBin gEq (xVar 12) (xC (.str "let"))) (xVar 10))) (DV.tAnd (DV.tNot (tTr (xVar 10))) (DV.tOr (tVal (xBin gNe (xVar 12) (xC (.str "lots")))) (DV.tNot (tTr (xCall F__law_very (aCons (xVar 13) (aCons (xVar 9) aNil)))))))) (sRet (xC (.bl false)))
 sNext)
 (sIf (tVal (xBin gNe (xBin gIx (xMet m__law_f_met 1 2 fbs_law (aCons (xLam 3) aNil)) (xC (.int 0))) (xVar 12))) (sRet (xC (.bl false)))
 sNext)))))
noncomputable def B_law_9 : Sx :=
 (sSeq (sAsg (xCall F__law_spring (aCons (xVar 0) (aCons (xVar 1) aNil))) (gVar 2))
 (sSeq (sAsg (xCall F__law_b_drawn (aCons (xVar 2) (aCons (xCall F__law_pick (aCons (xVar 2) (aCons (xFz (aLst (aCons (xC (.int 1)) (aCons (xC (.int 2)) (aCons (xC (.int 3)) (aCons (xC (.int 5)) (aCons (xC (.int 8)) aNil))))))) aNil))) aNil))) (gUnp 2 (gsCons (gVar 3) (gsCons (gVar 4) gsNil))))
 (sSeq (sPar 5 6 (aCons (xCall F__law_draw (aCons (xVar 2) (aCons (xCall (noX (f1 gLen)) (aCons (xVar 3) aNil)) aNil))) (aCons (xCall F__law_draw (aCons (xVar 2) (aCons (xBin gAdd (xCall (noX (f1 gLen)) (aCons (xVar 4) aNil)) (xC (.int 1))) aNil))) aNil)))
 (sSeq (sAsg (xOwn (aLst (aCons (xFz (aCallN (fn1 gList) (aCons (xVar 3) aNil))) (aCons (xCall (noX (f1 gTuple)) (aCons (xVar 3) aNil)) (aCons (xFz (aLst aNil)) (aCons (xC .non) (aCons (xC (.int 0)) (aCons (xC (.str "")) (aCons (xC (.str "abc")) (aCons xD0 (aCons (xBin gAdd (xVar 3) (xFz (aLst (aCons (xBin gIx (xVar 3) (xVar 5)) aNil)))) (aCons (xBin gAdd (xVar 3) (xFz (aComp (ixRng1 (aCons (xC (.int 9)) aNil)) (.one 18) tAll E_law_0 [18]))) aNil)))))))))))) (gVar 7))
 (sSeq (sAsg (xOwn (aCat (xVar 7) (xFz (aComp (ixSeq (xFz (aLst (aCons (xC (.int 8)) (aCons (xC (.int 9)) aNil))))) (.one 17) tAll E_law_2 [17])))) (gVar 7))
 (sSeq (sFor (ixSeq (xFz (aLst (aCons (xC (.str "")) (aCons (xC (.str "A")) (aCons (xC (.str "9a")) (aCons (xC (.str "a b")) (aCons (xC (.str "a-b")) (aCons (xC (.str "abcdefghi")) (aCons (xC (.str "aB")) (aCons (xC .non) (aCons (xC (.int 0)) (aCons (xFz (aLst (aCons (xC (.str "a")) aNil))) (aCons (xC (.str "a\n")) aNil)))))))))))))) (gVar 8) B_law_3)
 (sSeq (sFor (ixSeq (xVar 7)) (gTag 9) B_law_5)
 (sSeq (sPar 14 15 (aCons (xBin gIx (xVar 3) (xVar 5)) (aCons (xCall F__law_b_some (aCons (xVar 2) (aCons (xVar 3) aNil))) aNil)))
 (sSeq (sAsg (xOwn (aLst (aCons (xFz (aCallN (fn1 gList) (aCons (xVar 4) aNil))) (aCons (xCall (noX (f1 gTuple)) (aCons (xVar 4) aNil)) (aCons (xFz (aComp (ixSeq (xVar 4)) (.one 16) tAll E_law_6 [16])) (aCons (xFz (aLst aNil)) (aCons (xC .non) (aCons (xC (.int 0)) (aCons (xC (.str "")) (aCons (xC (.str "ab")) (aCons xD0 (aCons (xFz (aLst (aCons (xC .non) aNil))) (aCons (xBin gAdd (xVar 4) (xFz (aLst (aCons (xBin gIx (xVar 4) (xC (.int 0))) aNil)))) (aCons (xBin gAdd (xVar 4) (xFz (aLst (aCons (xCall (noX (f1 gTuple)) (aCons (xBin gIx (xVar 4) (xC (.int 0))) aNil)) aNil)))) (aCons (xVar 14) (aCons (xFz (aLst (aCons (xVar 14) aNil))) (aCons (xFz (aLst (aCons (xFz (aLst (aCons (xFz (aLst (aCons (xVar 14) aNil))) aNil))) aNil))) aNil))))))))))))))))) (gVar 7))
 (sSeq (sFor (ixSeq (xFz (aLst (aCons (xFz (aLst (aCons (xVar 14) (aCons (xVar 14) aNil)))) (aCons (xFz (aLst (aCons (xC (.str "qq9qq9q")) aNil))) (aCons (xUn gRevL (xVar 15)) (aCons (xBin gAdd (xVar 15) (xFz (aLst (aCons (xC .non) aNil)))) (aCons (xBin gAdd (xVar 15) (xSlice (xVar 15) (pAt (xUn gNeg (xC (.int 1)))) pNo)) (aCons (xC (.str "ab")) (aCons (xC .non) (aCons (xBin gAdd (xVar 15) (xFz (aLst (aCons (xC (.str "qq9qq9q")) aNil)))) (aCons (xVar 15) (aCons (xTup (aCons (xVar 14) aNil)) (aCons (xFz (aLst (aCons (xC (.int 0)) aNil))) aNil)))))))))))))) (gVar 16) B_law_7)
 (sFor (ixSeq (xVar 7)) (gTag 9) B_law_8)))))))))))
noncomputable def m_law : Sx :=
 (sSeq (sFor (ixRng1 (aCons (xC (.int 5)) aNil)) (gVar 1) B_law_9)
 (sRet (xAndT (xBin gIsB (xCall F_are_lots (aCons (xFz (aLst (aCons (xC (.str "a")) (aCons (xC (.str "b")) aNil)))) (aCons (xFz (aLst (aCons (xC (.str "ab")) aNil))) aNil))) (xC (.bl false))) (xBin gIsB (xCall F_are_lots (aCons (xFz (aLst (aCons (xC (.str "a")) aNil))) (aCons (xFz (aLst (aCons (xC (.str "")) aNil))) aNil))) (xC (.bl false))))))
noncomputable def F_law : S → List D → Out D := lowF (runDef 1 19 m_law)
/-- what the head tells -/
structure Hd (C : Cfg) (P : Program) (w : World) (K : PySem.W.Frag) (mg : Str → Option Value) where
  lf : ∀ c, (C.cf c).length < 1000
  n_len : mg "len" = none
  n_enumerate : mg "enumerate" = none
  n_int : mg "int" = none
  n_list : mg "list" = none
  n_range : mg "range" = none
  n_str : mg "str" = none
  n_sorted : mg "sorted" = none
  n_isinstance : mg "isinstance" = none
  n_all : mg "all" = none
  n_tuple : mg "tuple" = none
  n_dict : mg "dict" = none
  n_zip : mg "zip" = none
  n_bool : mg "bool" = none
  a__law_spring : Addr
  d__law_spring : FuncData
  f__law_spring : Fun K "_law_spring" "_law_spring" st__law_spring a__law_spring d__law_spring
  g__law_spring : mg "_law_spring" = some (.ref a__law_spring)
  a__law_draw : Addr
  d__law_draw : FuncData
  f__law_draw : Fun K "_law_draw" "_law_draw" st__law_draw a__law_draw d__law_draw
  g__law_draw : mg "_law_draw" = some (.ref a__law_draw)
  a__law_pick : Addr
  d__law_pick : FuncData
  f__law_pick : Fun K "_law_pick" "_law_pick" st__law_pick a__law_pick d__law_pick
  g__law_pick : mg "_law_pick" = some (.ref a__law_pick)
  a__law_b_names : Addr
  d__law_b_names : FuncData
  f__law_b_names : Fun K "_law_b_names" "_law_b_names" st__law_b_names a__law_b_names d__law_b_names
  g__law_b_names : mg "_law_b_names" = some (.ref a__law_b_names)
  a__law_mixed : Addr
  d__law_mixed : FuncData
  f__law_mixed : Fun K "_law_mixed" "_law_mixed" st__law_mixed a__law_mixed d__law_mixed
  g__law_mixed : mg "_law_mixed" = some (.ref a__law_mixed)
  a__law_b_bits : Addr
  d__law_b_bits : FuncData
  f__law_b_bits : Fun K "_law_b_bits" "_law_b_bits" st__law_b_bits a__law_b_bits d__law_b_bits
  g__law_b_bits : mg "_law_b_bits" = some (.ref a__law_b_bits)
  a__law_b_det : Addr
  d__law_b_det : FuncData
  f__law_b_det : Fun K "_law_b_det" "_law_b_det" st__law_b_det a__law_b_det d__law_b_det
  g__law_b_det : mg "_law_b_det" = some (.ref a__law_b_det)
  a__law_b_shape : Addr
  d__law_b_shape : FuncData
  f__law_b_shape : Fun K "_law_b_shape" "_law_b_shape" st__law_b_shape a__law_b_shape d__law_b_shape
  g__law_b_shape : mg "_law_b_shape" = some (.ref a__law_b_shape)
  a__law_b_drawn : Addr
  d__law_b_drawn : FuncData
  f__law_b_drawn : Fun K "_law_b_drawn" "_law_b_drawn" st__law_b_drawn a__law_b_drawn d__law_b_drawn
  g__law_b_drawn : mg "_law_b_drawn" = some (.ref a__law_b_drawn)
  a__law_f_name : Addr
  d__law_f_name : FuncData
  f__law_f_name : Fun K "_law_f_name" "_law_f_name" st__law_f_name a__law_f_name d__law_f_name
  g__law_f_name : mg "_law_f_name" = some (.ref a__law_f_name)
  a__law_f_names : Addr
  d__law_f_names : FuncData
  f__law_f_names : Fun K "_law_f_names" "_law_f_names" st__law_f_names a__law_f_names d__law_f_names
  g__law_f_names : mg "_law_f_names" = some (.ref a__law_f_names)
  a__law_b_some : Addr
  d__law_b_some : FuncData
  f__law_b_some : Fun K "_law_b_some" "_law_b_some" st__law_b_some a__law_b_some d__law_b_some
  g__law_b_some : mg "_law_b_some" = some (.ref a__law_b_some)
  a__law_b_lot : Addr
  d__law_b_lot : FuncData
  f__law_b_lot : Fun K "_law_b_lot" "_law_b_lot" st__law_b_lot a__law_b_lot d__law_b_lot
  g__law_b_lot : mg "_law_b_lot" = some (.ref a__law_b_lot)
  a__law_f_lots : Addr
  d__law_f_lots : FuncData
  f__law_f_lots : Fun K "_law_f_lots" "_law_f_lots" st__law_f_lots a__law_f_lots d__law_f_lots
  g__law_f_lots : mg "_law_f_lots" = some (.ref a__law_f_lots)
  a__law_f_met : Addr
  d__law_f_met : FuncData
  f__law_f_met : Fun K "_law_f_met" "_law_f_met" st__law_f_met a__law_f_met d__law_f_met
  g__law_f_met : mg "_law_f_met" = some (.ref a__law_f_met)
  a_is_list : Addr
  d_is_list : FuncData
  f_is_list : Fun K "is_list" "is_list" st_is_list a_is_list d_is_list
  g_is_list : mg "is_list" = some (.ref a_is_list)
  a_is_lot : Addr
  d_is_lot : FuncData
  f_is_lot : Fun K "is_lot" "is_lot" st_is_lot a_is_lot d_is_lot
  g_is_lot : mg "is_lot" = some (.ref a_is_lot)
  a_are_right_lots : Addr
  d_are_right_lots : FuncData
  f_are_right_lots : Fun K "are_right_lots" "are_right_lots" st_are_right_lots a_are_right_lots d_are_right_lots
  g_are_right_lots : mg "are_right_lots" = some (.ref a_are_right_lots)
  a_is_name : Addr
  d_is_name : FuncData
  f_is_name : Fun K "is_name" "is_name" st_is_name a_is_name d_is_name
  g_is_name : mg "is_name" = some (.ref a_is_name)
  a_are_names : Addr
  d_are_names : FuncData
  f_are_names : Fun K "are_names" "are_names" st_are_names a_are_names d_are_names
  g_are_names : mg "are_names" = some (.ref a_are_names)
  a_are_lots : Addr
  d_are_lots : FuncData
  f_are_lots : Fun K "are_lots" "are_lots" st_are_lots a_are_lots d_are_lots
  g_are_lots : mg "are_lots" = some (.ref a_are_lots)
  a__law_same : Addr
  d__law_same : FuncData
  f__law_same : Fun K "_law_same" "_law_same" st__law_same a__law_same d__law_same
  g__law_same : mg "_law_same" = some (.ref a__law_same)
  a_check_names : Addr
  d_check_names : FuncData
  f_check_names : Fun K "check_names" "check_names" st_check_names a_check_names d_check_names
  g_check_names : mg "check_names" = some (.ref a_check_names)
  a_mask_of : Addr
  d_mask_of : FuncData
  f_mask_of : Fun K "mask_of" "mask_of" st_mask_of a_mask_of d_mask_of
  g_mask_of : mg "mask_of" = some (.ref a_mask_of)
  a_Family___init__ : Addr
  d_Family___init__ : FuncData
  f_Family___init__ : Fun K "__init__" "Family.__init__" st_Family___init__ a_Family___init__ d_Family___init__
  a__law_very : Addr
  d__law_very : FuncData
  f__law_very : Fun K "_law_very" "_law_very" st__law_very a__law_very d__law_very
  g__law_very : mg "_law_very" = some (.ref a__law_very)
  a_law : Addr
  d_law : FuncData
  f_law : Fun K "law" "law" st_law a_law d_law
  c_law : Addr
  P_law : Addr
  fL_law : FunC K "law" "law" st_law a_law d_law c_law
  nT_law : (P_law, (fun _ _ => ("law.<locals>.<lambda>" : Str) : Nat → Nat → Str)) ∈ C.T
  nU_law : ∀ p ∈ C.T, p.1 = P_law → p.2 = fun _ _ => ("law.<locals>.<lambda>" : Str)
  g_law : mg "law" = some (.ref a_law)
  e_BadNames : ExcH C P w K mg "BadNames" "given" "given" 0
  e_BadLots : ExcH C P w K mg "BadLots" "given" "given" 1
  i_Family : InsH C K mg "Family" ["own", "masks"] 2
  j_Family : i_Family.aI = a_Family___init__
  exm : ∀ j k : Nat, j < 2 → k < 2 → PySem.W.exmOne K (.ref (C.ca j)) (.ref (C.ca k)) = some (decide (j = k))
  v_LETTERS : Value
  k_LETTERS : mg "LETTERS" = some v_LETTERS
  r_LETTERS : RelV (.str "abcdefghijklmnopqrstuvwxyz") v_LETTERS
  v_SIGNS : Value
  k_SIGNS : mg "SIGNS" = some v_SIGNS
  r_SIGNS : RelV (.str "abcdefghijklmnopqrstuvwxyz0123456789") v_SIGNS
  v_EIGHT : Value
  k_EIGHT : mg "EIGHT" = some v_EIGHT
  r_EIGHT : RelV (.int 8) v_EIGHT
def Hd.wl {C : Cfg} {P : Program} {w : World} {K : PySem.W.Frag} {mg : Str → Option Value} (h : Hd C P w K mg) (r : LamR) : Hd (C.wl r) P w K mg := ⟨h.lf, h.n_len, h.n_enumerate, h.n_int, h.n_list, h.n_range, h.n_str, h.n_sorted, h.n_isinstance, h.n_all, h.n_tuple, h.n_dict, h.n_zip, h.n_bool, h.a__law_spring, h.d__law_spring, h.f__law_spring, h.g__law_spring, h.a__law_draw, h.d__law_draw, h.f__law_draw, h.g__law_draw, h.a__law_pick, h.d__law_pick, h.f__law_pick, h.g__law_pick, h.a__law_b_names, h.d__law_b_names, h.f__law_b_names, h.g__law_b_names, h.a__law_mixed, h.d__law_mixed, h.f__law_mixed, h.g__law_mixed, h.a__law_b_bits, h.d__law_b_bits, h.f__law_b_bits, h.g__law_b_bits, h.a__law_b_det, h.d__law_b_det, h.f__law_b_det, h.g__law_b_det, h.a__law_b_shape, h.d__law_b_shape, h.f__law_b_shape, h.g__law_b_shape, h.a__law_b_drawn, h.d__law_b_drawn, h.f__law_b_drawn, h.g__law_b_drawn, h.a__law_f_name, h.d__law_f_name, h.f__law_f_name, h.g__law_f_name, h.a__law_f_names, h.d__law_f_names, h.f__law_f_names, h.g__law_f_names, h.a__law_b_some, h.d__law_b_some, h.f__law_b_some, h.g__law_b_some, h.a__law_b_lot, h.d__law_b_lot, h.f__law_b_lot, h.g__law_b_lot, h.a__law_f_lots, h.d__law_f_lots, h.f__law_f_lots, h.g__law_f_lots, h.a__law_f_met, h.d__law_f_met, h.f__law_f_met, h.g__law_f_met, h.a_is_list, h.d_is_list, h.f_is_list, h.g_is_list, h.a_is_lot, h.d_is_lot, h.f_is_lot, h.g_is_lot, h.a_are_right_lots, h.d_are_right_lots, h.f_are_right_lots, h.g_are_right_lots, h.a_is_name, h.d_is_name, h.f_is_name, h.g_is_name, h.a_are_names, h.d_are_names, h.f_are_names, h.g_are_names, h.a_are_lots, h.d_are_lots, h.f_are_lots, h.g_are_lots, h.a__law_same, h.d__law_same, h.f__law_same, h.g__law_same, h.a_check_names, h.d_check_names, h.f_check_names, h.g_check_names, h.a_mask_of, h.d_mask_of, h.f_mask_of, h.g_mask_of, h.a_Family___init__, h.d_Family___init__, h.f_Family___init__, h.a__law_very, h.d__law_very, h.f__law_very, h.g__law_very, h.a_law, h.d_law, h.f_law, h.c_law, h.P_law, h.fL_law, h.nT_law, h.nU_law, h.g_law, (h.e_BadNames.wl r), (h.e_BadLots.wl r), (h.i_Family.wl r), h.j_Family, h.exm, h.v_LETTERS, h.k_LETTERS, h.r_LETTERS, h.v_SIGNS, h.k_SIGNS, h.r_SIGNS, h.v_EIGHT, h.k_EIGHT, h.r_EIGHT⟩
section
variable {P : Program} {w : World} {K : PySem.W.Frag} {mg : Str → Option Value} {base : Heap} {C : Cfg} (h : Hd C P w K mg)
theorem sc__law_spring : FnScope ["script", "turn", "cell", "mix", "at", "one"] ["script", "turn"] (defScope st__law_spring) := ⟨rfl, rfl, rfl, by decide +kernel, rfl, by decide +kernel, by decide +kernel⟩
theorem bi__law_spring : Binds K h.d__law_spring ["script", "turn"] [] := h.f__law_spring.binds fun _ _ _ _ _ _ us hl => match us, hl with | [_, _], _ => rfl
theorem ok__law_spring : FnOk P w K mg base (L2.CX P w) 2 h.a__law_spring h.d__law_spring ["script", "turn"] (spD C K F__law_spring) := fn_defO (N := ["script", "turn", "cell", "mix", "at", "one"]) h.f__law_spring sc__law_spring fun cdv A outer s H E hr => by
  have nd := sc__law_spring.nd
  have tk := tk_cx (P := P) (w := w) (K := K) (mg := mg) (base := base) (N := ["script", "turn", "cell", "mix", "at", "one"]) (q := "_law_spring") (sc := defScope st__law_spring) (f := h.a__law_spring) (cd := cdv) (A := A) (outer := outer) (s := s) (H := H) (E := E)
  have pso := own_cx (P := P) (w := w) (K := K) (mg := mg) (base := base) (N := ["script", "turn", "cell", "mix", "at", "one"]) (q := "_law_spring") (sc := defScope st__law_spring) (f := h.a__law_spring) (cd := cdv) (A := A) (outer := outer) (s := s) (H := H) (E := E)
  have fl := flatE (E := E)
  exact (dss_cons (ds_par rfl nd rfl rfl (by decide) rfl rfl (da_cons (de_if (dt_cmp o_lt (de_var (i := 1) rfl (.inl rfl)) (de_callB c_len rfl h.n_len (by decide +kernel) (da_cons (de_var (i := 0) rfl (.inl rfl)) da_nil)) rfl) (de_ix hr.b1 (de_var (i := 0) rfl (.inl rfl)) (de_var (i := 1) rfl (.inl rfl))) (de_bin o_add (de_bin o_mul de_int (de_var (i := 1) rfl (.inl rfl))) (de_callB c_len rfl h.n_len (by decide +kernel) (da_cons (de_var (i := 0) rfl (.inl rfl)) da_nil)))) (da_cons (de_bin o_add de_int (de_bin o_mul de_int (de_var (i := 1) rfl (.inl rfl)))) da_nil)) rfl)
 (dss_cons (ds_for pso rfl (di_enum rfl h.n_enumerate (da_cons (de_slice (de_var (i := 0) rfl (.inl rfl)) dp_no (dp_at de_int)) da_nil)) (dg_unp rfl (dgs_cons (dg_name nd rfl (.inl rfl)) (dgs_cons (dg_name nd rfl (.inl rfl)) dgs_nil))) (dss_one (ds_set nd rfl (.inl rfl) (de_bin o_mod (de_callTy c_int rfl h.n_int (by decide +kernel) (da_cons (de_bin o_add (de_bin o_add (de_bin o_add (de_bin o_mul (de_var (i := 3) rfl (.inl rfl)) de_int) (de_var (i := 5) rfl (.inl rfl))) (de_bin o_mul de_int (de_var (i := 4) rfl (.inl rfl)))) de_int) da_nil)) de_int))))
 (dss_one (ds_ret (NE.own (ne_lst (da_cons (de_if (dt_cmp o_ge (de_var (i := 2) rfl (.inl rfl)) (de_bin o_pow de_int de_int) rfl) (de_var (i := 2) rfl (.inl rfl)) de_int) (da_cons (de_bin o_mod (de_callTy c_int rfl h.n_int (by decide +kernel) (da_cons (de_bin o_add (de_var (i := 3) rfl (.inl rfl)) (de_bin o_mul (de_var (i := 2) rfl (.inl rfl)) de_int)) da_nil)) de_int) (da_cons de_int da_nil)))))))))
theorem sc__law_draw : FnScope ["spring", "many", "digit", "mixed"] ["spring", "many"] (defScope st__law_draw) := ⟨rfl, rfl, rfl, by decide +kernel, rfl, by decide +kernel, by decide +kernel⟩
theorem bi__law_draw : Binds K h.d__law_draw ["spring", "many"] [] := h.f__law_draw.binds fun _ _ _ _ _ _ us hl => match us, hl with | [_, _], _ => rfl
theorem ok__law_draw : FnOk P w K mg base (L2.CX P w) 2 h.a__law_draw h.d__law_draw ["spring", "many"] (spD C K F__law_draw) := fn_def (N := ["spring", "many", "digit", "mixed"]) h.f__law_draw sc__law_draw fun cdv A outer s H E hr => by
  have nd := sc__law_draw.nd
  have tk := tk_cx (P := P) (w := w) (K := K) (mg := mg) (base := base) (N := ["spring", "many", "digit", "mixed"]) (q := "_law_draw") (sc := defScope st__law_draw) (f := h.a__law_draw) (cd := cdv) (A := A) (outer := outer) (s := s) (H := H) (E := E)
  have pso := own_cx (P := P) (w := w) (K := K) (mg := mg) (base := base) (N := ["spring", "many", "digit", "mixed"]) (q := "_law_draw") (sc := defScope st__law_draw) (f := h.a__law_draw) (cd := cdv) (A := A) (outer := outer) (s := s) (H := H) (E := E)
  have fl := flatE (E := E)
  exact (dss_cons (ds_if (dt_cmp o_gt (de_ix hr.b1 (de_var (i := 0) rfl (.inl rfl)) de_int) de_int rfl) (dss_cons (ds_set nd rfl (.inl rfl) (de_bin o_mod (de_callTy c_int rfl h.n_int (by decide +kernel) (da_cons (de_ix hr.b1 (de_var (i := 0) rfl (.inl rfl)) de_int) da_nil)) (de_var (i := 1) rfl (.inl rfl))))
 (dss_cons (ds_asg (de_bin o_div (de_ix hr.b1 (de_var (i := 0) rfl (.inl rfl)) de_int) (de_var (i := 1) rfl (.inl rfl))) (dg_sub hr.b1 (de_var (i := 0) rfl (.inl rfl)) de_int))
 (dss_one (ds_ret (de_var (i := 2) rfl (.inl rfl))))))
 dss_nil)
 (dss_cons (ds_asg (de_bin o_add (de_ix hr.b1 (de_var (i := 0) rfl (.inl rfl)) de_int) de_int) (dg_sub hr.b1 (de_var (i := 0) rfl (.inl rfl)) de_int))
 (dss_cons (ds_set nd rfl (.inl rfl) (de_bin o_mod (de_bin o_pow (de_callTy c_int rfl h.n_int (by decide +kernel) (da_cons (de_bin o_add (de_bin o_add (de_ix hr.b1 (de_var (i := 0) rfl (.inl rfl)) de_int) (de_bin o_mul de_int (de_ix hr.b1 (de_var (i := 0) rfl (.inl rfl)) de_int))) de_int) da_nil)) de_int) de_int))
 (dss_one (ds_ret (de_bin o_mod (de_bin o_div (de_bin o_mod (de_bin o_pow (de_callTy c_int rfl h.n_int (by decide +kernel) (da_cons (de_bin o_add (de_bin o_mul (de_var (i := 3) rfl (.inl rfl)) de_int) (de_bin o_mul de_int (de_ix hr.b1 (de_var (i := 0) rfl (.inl rfl)) de_int))) da_nil)) de_int) de_int) de_int) (de_var (i := 1) rfl (.inl rfl))))))))
theorem sc__law_pick : FnScope ["spring", "some"] ["spring", "some"] (defScope st__law_pick) := ⟨rfl, rfl, rfl, by decide +kernel, rfl, by decide +kernel, by decide +kernel⟩
theorem bi__law_pick : Binds K h.d__law_pick ["spring", "some"] [] := h.f__law_pick.binds fun _ _ _ _ _ _ us hl => match us, hl with | [_, _], _ => rfl
theorem ok__law_pick : FnOk P w K mg base (L2.CX P w) 3 h.a__law_pick h.d__law_pick ["spring", "some"] (spD C K F__law_pick) := fn_def (N := ["spring", "some"]) h.f__law_pick sc__law_pick fun cdv A outer s H E hr => by
  have nd := sc__law_pick.nd
  have tk := tk_cx (P := P) (w := w) (K := K) (mg := mg) (base := base) (N := ["spring", "some"]) (q := "_law_pick") (sc := defScope st__law_pick) (f := h.a__law_pick) (cd := cdv) (A := A) (outer := outer) (s := s) (H := H) (E := E)
  have pso := own_cx (P := P) (w := w) (K := K) (mg := mg) (base := base) (N := ["spring", "some"]) (q := "_law_pick") (sc := defScope st__law_pick) (f := h.a__law_pick) (cd := cdv) (A := A) (outer := outer) (s := s) (H := H) (E := E)
  have fl := flatE (E := E)
  exact (dss_one (ds_ret (de_ix hr.b1 (de_var (i := 1) rfl (.inl rfl)) (de_call (ok__law_draw h) (hr.mono (by decide)) rfl h.g__law_draw h.f__law_draw.kp (bi__law_draw h) tk (da_cons (de_var (i := 0) rfl (.inl rfl)) (da_cons (de_callB c_len rfl h.n_len (by decide +kernel) (da_cons (de_var (i := 1) rfl (.inl rfl)) da_nil)) da_nil))))))
theorem sc__law_b_names : FnScope ["spring", "many", "found", "name", "k", "sign"] ["spring", "many"] (defScope st__law_b_names) := ⟨rfl, rfl, rfl, by decide +kernel, rfl, by decide +kernel, by decide +kernel⟩
theorem bi__law_b_names : Binds K h.d__law_b_names ["spring", "many"] [] := h.f__law_b_names.binds fun _ _ _ _ _ _ us hl => match us, hl with | [_, _], _ => rfl
theorem ok__law_b_names : FnOk P w K mg base (L2.CX P w) 4 h.a__law_b_names h.d__law_b_names ["spring", "many"] (spD C K F__law_b_names) := fn_def (N := ["spring", "many", "found", "name", "k", "sign"]) h.f__law_b_names sc__law_b_names fun cdv A outer s H E hr => by
  have nd := sc__law_b_names.nd
  have tk := tk_cx (P := P) (w := w) (K := K) (mg := mg) (base := base) (N := ["spring", "many", "found", "name", "k", "sign"]) (q := "_law_b_names") (sc := defScope st__law_b_names) (f := h.a__law_b_names) (cd := cdv) (A := A) (outer := outer) (s := s) (H := H) (E := E)
  have pso := own_cx (P := P) (w := w) (K := K) (mg := mg) (base := base) (N := ["spring", "many", "found", "name", "k", "sign"]) (q := "_law_b_names") (sc := defScope st__law_b_names) (f := h.a__law_b_names) (cd := cdv) (A := A) (outer := outer) (s := s) (H := H) (E := E)
  have fl := flatE (E := E)
  exact (dss_cons (ds_set nd rfl (.inl rfl) de_dctK)
 (dss_cons (ds_while pso (dt_cmp o_lt (de_callB c_len rfl h.n_len (by decide +kernel) (da_cons (de_var (i := 2) rfl (.inl rfl)) da_nil)) (de_var (i := 1) rfl (.inl rfl)) rfl) (dss_cons (ds_set nd rfl (.inl rfl) (de_call (ok__law_pick h) (hr.mono (by decide)) rfl h.g__law_pick h.f__law_pick.kp (bi__law_pick h) tk (da_cons (de_var (i := 0) rfl (.inl rfl)) (da_cons (NE.fz (ne_callTy (c_list rfl) rfl h.n_list (by decide +kernel) (da_cons de_str da_nil))) da_nil))))
 (dss_cons (ds_if (DW.dt (dw_and (dt_tr (de_var (i := 2) rfl (.inl rfl))) (dw_and1 (dt_cmp (o_eq hr.b64) (de_call (ok__law_draw h) (hr.mono (by decide)) rfl h.g__law_draw h.f__law_draw.kp (bi__law_draw h) tk (da_cons (de_var (i := 0) rfl (.inl rfl)) (da_cons de_int da_nil))) de_int rfl)))) (dss_one (ds_set nd rfl (.inl rfl) (de_bin o_add (de_slice (de_call (ok__law_pick h) (hr.mono (by decide)) rfl h.g__law_pick h.f__law_pick.kp (bi__law_pick h) tk (da_cons (de_var (i := 0) rfl (.inl rfl)) (da_cons (NE.fz (ne_callTy (c_list rfl) rfl h.n_list (by decide +kernel) (da_cons (de_var (i := 2) rfl (.inl rfl)) da_nil))) da_nil))) dp_no (dp_at de_int)) (de_call (ok__law_pick h) (hr.mono (by decide)) rfl h.g__law_pick h.f__law_pick.kp (bi__law_pick h) tk (da_cons (de_var (i := 0) rfl (.inl rfl)) (da_cons (NE.fz (ne_lst (da_cons de_str (da_cons de_str (da_cons de_str (da_cons de_str (da_cons de_str da_nil))))))) da_nil))))))
 dss_nil)
 (dss_cons (ds_for pso rfl (di_range1 rfl h.n_range (da_cons (de_call (ok__law_draw h) (hr.mono (by decide)) rfl h.g__law_draw h.f__law_draw.kp (bi__law_draw h) tk (da_cons (de_var (i := 0) rfl (.inl rfl)) (da_cons de_int da_nil))) da_nil)) (dg_name nd rfl (.inl rfl)) (dss_one (ds_set nd rfl (.inl rfl) (de_bin o_add (de_var (i := 3) rfl (.inl rfl)) (de_call (ok__law_pick h) (hr.mono (by decide)) rfl h.g__law_pick h.f__law_pick.kp (bi__law_pick h) tk (da_cons (de_var (i := 0) rfl (.inl rfl)) (da_cons (NE.fz (ne_callTy (c_list rfl) rfl h.n_list (by decide +kernel) (da_cons de_str da_nil))) da_nil)))))))
 (dss_cons (ds_set nd rfl (.inl rfl) (de_slice (de_var (i := 3) rfl (.inl rfl)) dp_no (dp_at de_int)))
 (dss_cons (ds_for pso rfl (di_seq de_str) (dg_name nd rfl (.inl rfl)) (dss_one (ds_if (dt_cmp (o_in hr.b65) (de_var (i := 3) rfl (.inl rfl)) (de_var (i := 2) rfl (.inl rfl)) rfl) (dss_one (ds_set nd rfl (.inl rfl) (de_bin o_add (de_slice (de_var (i := 3) rfl (.inl rfl)) dp_no (dp_at de_int)) (de_var (i := 5) rfl (.inl rfl)))))
 dss_nil)))
 (dss_cons (ds_set nd rfl (.inl rfl) (de_if (dt_cmp (o_in hr.b65) (de_var (i := 3) rfl (.inl rfl)) (de_var (i := 2) rfl (.inl rfl)) rfl) (de_bin o_add de_str (de_callTy c_str rfl h.n_str (by decide +kernel) (da_cons (de_callB c_len rfl h.n_len (by decide +kernel) (da_cons (de_var (i := 2) rfl (.inl rfl)) da_nil)) da_nil))) (de_var (i := 3) rfl (.inl rfl))))
 (dss_one (ds_asg de_int (dg_sub hr.b1 (de_var (i := 2) rfl (.inl rfl)) (de_var (i := 3) rfl (.inl rfl))))))))))))
 (dss_one (ds_ret (NE.fz (ne_callTy (c_list rfl) rfl h.n_list (by decide +kernel) (da_cons (de_var (i := 2) rfl (.inl rfl)) da_nil)))))))
theorem sc__law_mixed : FnScope ["spring", "some", "left", "k"] ["spring", "some"] (defScope st__law_mixed) := ⟨rfl, rfl, rfl, by decide +kernel, rfl, by decide +kernel, by decide +kernel⟩
theorem bi__law_mixed : Binds K h.d__law_mixed ["spring", "some"] [] := h.f__law_mixed.binds fun _ _ _ _ _ _ us hl => match us, hl with | [_, _], _ => rfl
theorem ok__law_mixed : FnOk P w K mg base (L2.CX P w) 3 h.a__law_mixed h.d__law_mixed ["spring", "some"] (spD C K F__law_mixed) := fn_def (N := ["spring", "some", "left", "k"]) h.f__law_mixed sc__law_mixed fun cdv A outer s H E hr => by
  have nd := sc__law_mixed.nd
  have tk := tk_cx (P := P) (w := w) (K := K) (mg := mg) (base := base) (N := ["spring", "some", "left", "k"]) (q := "_law_mixed") (sc := defScope st__law_mixed) (f := h.a__law_mixed) (cd := cdv) (A := A) (outer := outer) (s := s) (H := H) (E := E)
  have pso := own_cx (P := P) (w := w) (K := K) (mg := mg) (base := base) (N := ["spring", "some", "left", "k"]) (q := "_law_mixed") (sc := defScope st__law_mixed) (f := h.a__law_mixed) (cd := cdv) (A := A) (outer := outer) (s := s) (H := H) (E := E)
  have fl := flatE (E := E)
  exact (dss_cons (ds_set nd rfl (.inr rfl) (NE.own (ne_callTy (c_list rfl) rfl h.n_list (by decide +kernel) (da_cons (de_var (i := 1) rfl (.inl rfl)) da_nil))))
 (dss_one (ds_ret (NE.fz (ne_lc (own := [("k", 3)]) (c := (.one 3)) rfl nd (di_range1 rfl h.n_range (da_cons (de_callB c_len rfl h.n_len (by decide +kernel) (da_cons (de_var (i := 2) rfl (.inr (.inl rfl))) da_nil)) da_nil)) (blkOk_by (by kernel_rfl)) (by decide) (fun s H A cl fp => pg_name nd rfl (.inl rfl)) (fun s H A cl fp => dts_nil) (fun s H A cl fp => (de_bm tyc_list F.plainAttrs_list F.slot_list_pop rfl m_pop (de_var (i := 2) rfl (.inr (.inl rfl))) (da_cons (de_call (ok__law_draw h) (hr.mono (by decide)) rfl h.g__law_draw h.f__law_draw.kp (bi__law_draw h) takes0 (da_cons (de_var (i := 0) rfl (.inr (.inl rfl))) (da_cons (de_callB c_len rfl h.n_len (by decide +kernel) (da_cons (de_var (i := 2) rfl (.inr (.inl rfl))) da_nil)) da_nil))) da_nil))))))))
theorem sc__law_b_bits : FnScope ["many", "found", "place", "lot"] ["many"] (defScope st__law_b_bits) := ⟨rfl, rfl, rfl, by decide +kernel, rfl, by decide +kernel, by decide +kernel⟩
theorem bi__law_b_bits : Binds K h.d__law_b_bits ["many"] [] := h.f__law_b_bits.binds fun _ _ _ _ _ _ us hl => match us, hl with | [_], _ => rfl
theorem ok__law_b_bits : FnOk P w K mg base (L2.CX P w) 2 h.a__law_b_bits h.d__law_b_bits ["many"] (spD C K F__law_b_bits) := fn_def (N := ["many", "found", "place", "lot"]) h.f__law_b_bits sc__law_b_bits fun cdv A outer s H E hr => by
  have nd := sc__law_b_bits.nd
  have tk := tk_cx (P := P) (w := w) (K := K) (mg := mg) (base := base) (N := ["many", "found", "place", "lot"]) (q := "_law_b_bits") (sc := defScope st__law_b_bits) (f := h.a__law_b_bits) (cd := cdv) (A := A) (outer := outer) (s := s) (H := H) (E := E)
  have pso := own_cx (P := P) (w := w) (K := K) (mg := mg) (base := base) (N := ["many", "found", "place", "lot"]) (q := "_law_b_bits") (sc := defScope st__law_b_bits) (f := h.a__law_b_bits) (cd := cdv) (A := A) (outer := outer) (s := s) (H := H) (E := E)
  have fl := flatE (E := E)
  exact (dss_cons (ds_set nd rfl (.inl rfl) (NE.fz (ne_lst (da_cons (NE.fz (ne_lst da_nil)) da_nil))))
 (dss_cons (ds_for pso rfl (di_range1 rfl h.n_range (da_cons (de_var (i := 0) rfl (.inl rfl)) da_nil)) (dg_name nd rfl (.inr rfl)) (dss_one (ds_set nd rfl (.inl rfl) (de_bin o_add (de_var (i := 1) rfl (.inl rfl)) (NE.fz (ne_lc (own := [("lot", 3)]) (c := (.one 3)) rfl nd (di_seq (de_var (i := 1) rfl (.inl rfl))) (blkOk_by (by kernel_rfl)) (by decide) (fun s H A cl fp => pg_name nd rfl (.inl rfl)) (fun s H A cl fp => dts_nil) (fun s H A cl fp => (de_bin o_add (de_var (i := 3) rfl (.inl rfl)) (NE.fz (ne_lst (da_cons (de_var (i := 2) rfl (.inr (.inl rfl))) da_nil)))))))))))
 (dss_one (ds_ret (de_var (i := 1) rfl (.inl rfl))))))
theorem sc__law_b_det : FnScope ["rows", "left", "sign", "last", "place", "some", "top", "at", "row", "k"] ["rows"] (defScope st__law_b_det) := ⟨rfl, rfl, rfl, by decide +kernel, rfl, by decide +kernel, by decide +kernel⟩
theorem bi__law_b_det : Binds K h.d__law_b_det ["rows"] [] := h.f__law_b_det.binds fun _ _ _ _ _ _ us hl => match us, hl with | [_], _ => rfl
theorem ok__law_b_det : FnOk P w K mg base (L2.CX P w) 2 h.a__law_b_det h.d__law_b_det ["rows"] (spD C K F__law_b_det) := fn_def (N := ["rows", "left", "sign", "last", "place", "some", "top", "at", "row", "k"]) h.f__law_b_det sc__law_b_det fun cdv A outer s H E hr => by
  have nd := sc__law_b_det.nd
  have tk := tk_cx (P := P) (w := w) (K := K) (mg := mg) (base := base) (N := ["rows", "left", "sign", "last", "place", "some", "top", "at", "row", "k"]) (q := "_law_b_det") (sc := defScope st__law_b_det) (f := h.a__law_b_det) (cd := cdv) (A := A) (outer := outer) (s := s) (H := H) (E := E)
  have pso := own_cx (P := P) (w := w) (K := K) (mg := mg) (base := base) (N := ["rows", "left", "sign", "last", "place", "some", "top", "at", "row", "k"]) (q := "_law_b_det") (sc := defScope st__law_b_det) (f := h.a__law_b_det) (cd := cdv) (A := A) (outer := outer) (s := s) (H := H) (E := E)
  have fl := flatE (E := E)
  exact (dss_cons (ds_asg (de_tup (da_cons (NE.own (ne_lc (own := [("row", 8)]) (c := (.one 8)) rfl nd (di_seq (de_var (i := 0) rfl (.inl rfl))) (blkOk_by (by kernel_rfl)) (by decide) (fun s H A cl fp => pg_name nd rfl (.inl rfl)) (fun s H A cl fp => dts_nil) (fun s H A cl fp => (NE.fz (ne_callTy (c_list rfl) rfl h.n_list (by decide +kernel) (da_cons (de_var (i := 8) rfl (.inl rfl)) da_nil)))))) (da_cons de_int (da_cons de_int da_nil)))) (dg_unp rfl (dgs_cons (dg_name nd rfl (.inr rfl)) (dgs_cons (dg_name nd rfl (.inl rfl)) (dgs_cons (dg_name nd rfl (.inr rfl)) dgs_nil)))))
 (dss_cons (ds_for pso rfl (di_range1 rfl h.n_range (da_cons (de_callB c_len rfl h.n_len (by decide +kernel) (da_cons (de_var (i := 1) rfl (.inr (.inl rfl))) da_nil)) da_nil)) (dg_name nd rfl (.inr rfl)) (dss_cons (ds_setLc (own := [("at", 7)]) (c := (.one 7)) (.inl rfl) rfl nd rfl rfl rfl (di_range2 rfl h.n_range (da_cons (de_var (i := 4) rfl (.inr (.inl rfl))) (da_cons (de_callB c_len rfl h.n_len (by decide +kernel) (da_cons (de_var (i := 1) rfl (.inr (.inl rfl))) da_nil)) da_nil))) (blkOk_by (by kernel_rfl)) (by decide) (fun s H A cl fp => pg_name nd rfl (.inl rfl)) (fun s H A cl fp => dts_one (dt_cmp (o_ne hr.b64) (de_ix hr.b1 (de_ix hr.b1 (de_var (i := 1) rfl (.inr (.inl rfl))) (de_var (i := 7) rfl (.inl rfl))) (de_var (i := 4) rfl (.inr (.inl rfl)))) de_int rfl)) (fun s H A cl fp => (de_var (i := 7) rfl (.inl rfl))))
 (dss_cons (ds_if (dt_not (dt_tr (de_var (i := 5) rfl (.inl rfl)))) (dss_one (ds_ret de_int))
 dss_nil)
 (dss_cons (ds_if (dt_cmp (o_ne hr.b64) (de_ix hr.b1 (de_var (i := 5) rfl (.inl rfl)) de_int) (de_var (i := 4) rfl (.inr (.inl rfl))) rfl) (dss_cons (ds_asg (de_tup (da_cons (de_ix hr.b1 (de_var (i := 1) rfl (.inr (.inl rfl))) (de_ix hr.b1 (de_var (i := 5) rfl (.inl rfl)) de_int)) (da_cons (de_ix hr.b1 (de_var (i := 1) rfl (.inr (.inl rfl))) (de_var (i := 4) rfl (.inr (.inl rfl)))) da_nil))) (dg_unp rfl (dgs_cons (dg_sub hr.b1 (de_var (i := 1) rfl (.inr (.inl rfl))) (de_var (i := 4) rfl (.inr (.inl rfl)))) (dgs_cons (dg_sub hr.b1 (de_var (i := 1) rfl (.inr (.inl rfl))) (de_ix hr.b1 (de_var (i := 5) rfl (.inl rfl)) de_int)) dgs_nil))))
 (dss_one (ds_set nd rfl (.inl rfl) (de_un o_neg (de_var (i := 2) rfl (.inl rfl))))))
 dss_nil)
 (dss_cons (ds_set nd rfl (.inr rfl) (de_ix hr.b1 (de_var (i := 1) rfl (.inr (.inl rfl))) (de_var (i := 4) rfl (.inr (.inl rfl)))))
 (dss_cons (ds_for pso rfl (di_range2 rfl h.n_range (da_cons (de_bin o_add (de_var (i := 4) rfl (.inr (.inl rfl))) de_int) (da_cons (de_callB c_len rfl h.n_len (by decide +kernel) (da_cons (de_var (i := 1) rfl (.inr (.inl rfl))) da_nil)) da_nil))) (dg_name nd rfl (.inl rfl)) (dss_cons (ds_set nd rfl (.inr rfl) (de_ix hr.b1 (de_var (i := 1) rfl (.inr (.inl rfl))) (de_var (i := 7) rfl (.inl rfl))))
 (dss_one (ds_asg (NE.fz (ne_lc (own := [("k", 9)]) (c := (.one 9)) rfl nd (di_range1 rfl h.n_range (da_cons (de_callB c_len rfl h.n_len (by decide +kernel) (da_cons (de_var (i := 8) rfl (.inr (.inl rfl))) da_nil)) da_nil)) (blkOk_by (by kernel_rfl)) (by decide) (fun s H A cl fp => pg_name nd rfl (.inl rfl)) (fun s H A cl fp => dts_nil) (fun s H A cl fp => (de_bin o_div (de_bin o_sub (de_bin o_mul (de_ix hr.b1 (de_var (i := 8) rfl (.inr (.inl rfl))) (de_var (i := 9) rfl (.inl rfl))) (de_ix hr.b1 (de_var (i := 6) rfl (.inr (.inl rfl))) (de_var (i := 4) rfl (.inr (.inl rfl))))) (de_bin o_mul (de_ix hr.b1 (de_var (i := 8) rfl (.inr (.inl rfl))) (de_var (i := 4) rfl (.inr (.inl rfl)))) (de_ix hr.b1 (de_var (i := 6) rfl (.inr (.inl rfl))) (de_var (i := 9) rfl (.inl rfl))))) (de_var (i := 3) rfl (.inr (.inl rfl))))))) (dg_sub hr.b1 (de_var (i := 1) rfl (.inr (.inl rfl))) (de_var (i := 7) rfl (.inl rfl)))))))
 (dss_one (ds_set nd rfl (.inr rfl) (de_ix hr.b1 (de_var (i := 6) rfl (.inr (.inl rfl))) (de_var (i := 4) rfl (.inr (.inl rfl))))))))))))
 (dss_one (ds_ret (de_bin o_mul (de_var (i := 2) rfl (.inl rfl)) (de_var (i := 3) rfl (.inr (.inl rfl))))))))
theorem sc__law_b_shape : FnScope ["spring", "many", "every", "manner", "most", "found", "table", "skew", "one", "other", "number", "gone", "sizes", "turned", "lot", "place"] ["spring", "many"] (defScope st__law_b_shape) := ⟨rfl, rfl, rfl, by decide +kernel, rfl, by decide +kernel, by decide +kernel⟩
theorem bi__law_b_shape : Binds K h.d__law_b_shape ["spring", "many"] [] := h.f__law_b_shape.binds fun _ _ _ _ _ _ us hl => match us, hl with | [_, _], _ => rfl
theorem ok__law_b_shape : FnOk P w K mg base (L2.CX P w) 4 h.a__law_b_shape h.d__law_b_shape ["spring", "many"] (spD C K F__law_b_shape) := fn_def (N := ["spring", "many", "every", "manner", "most", "found", "table", "skew", "one", "other", "number", "gone", "sizes", "turned", "lot", "place"]) h.f__law_b_shape sc__law_b_shape fun cdv A outer s H E hr => by
  have nd := sc__law_b_shape.nd
  have tk := tk_cx (P := P) (w := w) (K := K) (mg := mg) (base := base) (N := ["spring", "many", "every", "manner", "most", "found", "table", "skew", "one", "other", "number", "gone", "sizes", "turned", "lot", "place"]) (q := "_law_b_shape") (sc := defScope st__law_b_shape) (f := h.a__law_b_shape) (cd := cdv) (A := A) (outer := outer) (s := s) (H := H) (E := E)
  have pso := own_cx (P := P) (w := w) (K := K) (mg := mg) (base := base) (N := ["spring", "many", "every", "manner", "most", "found", "table", "skew", "one", "other", "number", "gone", "sizes", "turned", "lot", "place"]) (q := "_law_b_shape") (sc := defScope st__law_b_shape) (f := h.a__law_b_shape) (cd := cdv) (A := A) (outer := outer) (s := s) (H := H) (E := E)
  have fl := flatE (E := E)
  exact (dss_cons (ds_par3 rfl nd rfl rfl rfl (by decide) (by decide) (by decide) rfl rfl rfl (da_cons (de_call (ok__law_b_bits h) (hr.mono (by decide)) rfl h.g__law_b_bits h.f__law_b_bits.kp (bi__law_b_bits h) tk (da_cons (de_var (i := 1) rfl (.inr (.inl rfl))) da_nil)) (da_cons (de_call (ok__law_draw h) (hr.mono (by decide)) rfl h.g__law_draw h.f__law_draw.kp (bi__law_draw h) tk (da_cons (de_var (i := 0) rfl (.inr (.inl rfl))) (da_cons de_int da_nil))) (da_cons (de_call (ok__law_pick h) (hr.mono (by decide)) rfl h.g__law_pick h.f__law_pick.kp (bi__law_pick h) tk (da_cons (de_var (i := 0) rfl (.inr (.inl rfl))) (da_cons (NE.fz (ne_lst (da_cons de_int (da_cons de_int (da_cons de_int (da_cons de_int da_nil)))))) da_nil))) da_nil))) rfl)
 (dss_cons (ds_setLc (own := [("lot", 14)]) (c := (.one 14)) (.inl rfl) rfl nd rfl rfl rfl (di_seq (de_var (i := 2) rfl (.inl rfl))) (blkOk_by (by kernel_rfl)) (by decide) (fun s H A cl fp => pg_name nd rfl (.inl rfl)) (fun s H A cl fp => dts_one (dt_cmp (o_eq hr.b64) (de_call (ok__law_draw h) (hr.mono (by decide)) rfl h.g__law_draw h.f__law_draw.kp (bi__law_draw h) takes0 (da_cons (de_var (i := 0) rfl (.inr (.inl rfl))) (da_cons (de_call (ok__law_pick h) (hr.mono (by decide)) rfl h.g__law_pick h.f__law_pick.kp (bi__law_pick h) takes0 (da_cons (de_var (i := 0) rfl (.inr (.inl rfl))) (da_cons (NE.fz (ne_lst (da_cons de_int (da_cons de_int (da_cons de_int da_nil))))) da_nil))) da_nil))) de_int rfl)) (fun s H A cl fp => (de_var (i := 14) rfl (.inl rfl))))
 (dss_cons (ds_if (dt_cmp (o_in hr.b65) (de_var (i := 3) rfl (.inl rfl)) (NE.fz (ne_lst (da_cons de_int (da_cons de_int (da_cons de_int da_nil))))) rfl) (dss_cons (ds_asg (de_tup (da_cons de_dctT (da_cons (de_cmp o_gt (de_call (ok__law_draw h) (hr.mono (by decide)) rfl h.g__law_draw h.f__law_draw.kp (bi__law_draw h) tk (da_cons (de_var (i := 0) rfl (.inr (.inl rfl))) (da_cons de_int da_nil))) de_int rfl) da_nil))) (dg_unp rfl (dgs_cons (dg_name nd rfl (.inr rfl)) (dgs_cons (dg_name nd rfl (.inl rfl)) dgs_nil))))
 (dss_cons (ds_for pso rfl (di_range1 rfl h.n_range (da_cons (de_var (i := 1) rfl (.inr (.inl rfl))) da_nil)) (dg_name nd rfl (.inl rfl)) (dss_one (ds_for pso rfl (di_range2 rfl h.n_range (da_cons (de_var (i := 8) rfl (.inl rfl)) (da_cons (de_var (i := 1) rfl (.inr (.inl rfl))) da_nil))) (dg_name nd rfl (.inl rfl)) (dss_cons (ds_set nd rfl (.inl rfl) (de_if (DW.dt (dw_and (dt_tr (de_var (i := 7) rfl (.inl rfl))) (dw_and1 (dt_cmp (o_eq hr.b64) (de_var (i := 8) rfl (.inl rfl)) (de_var (i := 9) rfl (.inl rfl)) rfl)))) de_int (de_bin o_sub (de_call (ok__law_draw h) (hr.mono (by decide)) rfl h.g__law_draw h.f__law_draw.kp (bi__law_draw h) tk (da_cons (de_var (i := 0) rfl (.inr (.inl rfl))) (da_cons (de_bin o_add (de_bin o_mul de_int (de_var (i := 4) rfl (.inl rfl))) de_int) da_nil))) (de_var (i := 4) rfl (.inl rfl)))))
 (dss_one (ds_asg (de_tup (da_cons (de_var (i := 10) rfl (.inl rfl)) (da_cons (de_if (DW.dt (dw_or (dt_cmp (o_eq hr.b64) (de_var (i := 8) rfl (.inl rfl)) (de_var (i := 9) rfl (.inl rfl)) rfl) (dw_or1 (dt_not (dt_tr (de_var (i := 7) rfl (.inl rfl))))))) (de_var (i := 10) rfl (.inl rfl)) (de_un o_neg (de_var (i := 10) rfl (.inl rfl)))) da_nil))) (dg_unp rfl (dgs_cons (dg_sub hr.b1 (de_var (i := 6) rfl (.inr (.inl rfl))) (de_tup (da_cons (de_var (i := 8) rfl (.inl rfl)) (da_cons (de_var (i := 9) rfl (.inl rfl)) da_nil)))) (dgs_cons (dg_sub hr.b1 (de_var (i := 6) rfl (.inr (.inl rfl))) (de_tup (da_cons (de_var (i := 9) rfl (.inl rfl)) (da_cons (de_var (i := 8) rfl (.inl rfl)) da_nil)))) dgs_nil)))))))))
 (dss_cons (ds_setLc (own := [("lot", 14)]) (c := (.one 14)) (.inl rfl) rfl nd rfl rfl rfl (di_seq (de_var (i := 2) rfl (.inl rfl))) (blkOk_by (by kernel_rfl)) (by decide) (fun s H A cl fp => pg_name nd rfl (.inr rfl)) (fun s H A cl fp => dts_one (dt_cmp (o_ne hr.b64) (de_call (ok__law_b_det h) (hr.mono (by decide)) rfl h.g__law_b_det h.f__law_b_det.kp (bi__law_b_det h) takes0 (da_cons (NE.fz (ne_lc (own := [("one", 8)]) (c := (.one 8)) rfl nd (di_seq (de_var (i := 14) rfl (.inr (.inl rfl)))) (blkOk_by (by kernel_rfl)) (by decide) (fun s H A cl fp => pg_name nd rfl (.inr rfl)) (fun s H A cl fp => dts_nil) (fun s H A cl fp => (NE.fz (ne_lc (own := [("other", 9)]) (c := (.one 9)) rfl nd (di_seq (de_var (i := 14) rfl (.inr (.inl rfl)))) (blkOk_by (by kernel_rfl)) (by decide) (fun s H A cl fp => pg_name nd rfl (.inl rfl)) (fun s H A cl fp => dts_nil) (fun s H A cl fp => (de_ix hr.b1 (de_var (i := 6) rfl (.inr (.inl rfl))) (de_tup (da_cons (de_var (i := 8) rfl (.inr (.inl rfl))) (da_cons (de_var (i := 9) rfl (.inl rfl)) da_nil)))))))))) da_nil)) de_int rfl)) (fun s H A cl fp => (de_var (i := 14) rfl (.inr (.inl rfl)))))
 (dss_one (ds_if (dt_cmp (o_eq hr.b64) (de_var (i := 3) rfl (.inl rfl)) de_int rfl) (dss_cons (ds_set nd rfl (.inr rfl) (de_call (ok__law_pick h) (hr.mono (by decide)) rfl h.g__law_pick h.f__law_pick.kp (bi__law_pick h) tk (da_cons (de_var (i := 0) rfl (.inr (.inl rfl))) (da_cons (de_var (i := 5) rfl (.inl rfl)) da_nil))))
 (dss_one (ds_set nd rfl (.inl rfl) (de_orT (NE.fz (ne_lc (own := [("lot", 14)]) (c := (.one 14)) rfl nd (di_seq (de_var (i := 5) rfl (.inl rfl))) (blkOk_by (by kernel_rfl)) (by decide) (fun s H A cl fp => pg_name nd rfl (.inl rfl)) (fun s H A cl fp => dts_one (dt_cmp (o_ne hr.b64) (de_var (i := 14) rfl (.inl rfl)) (de_var (i := 11) rfl (.inr (.inl rfl))) rfl)) (fun s H A cl fp => (de_var (i := 14) rfl (.inl rfl))))) (de_one (de_var (i := 5) rfl (.inl rfl)))))))
 dss_nil)))))
 dss_nil)
 (dss_cons (ds_if (dt_cmp (o_eq hr.b64) (de_var (i := 3) rfl (.inl rfl)) de_int rfl) (dss_cons (ds_set nd rfl (.inr rfl) (NE.fz (ne_lst (da_cons (de_call (ok__law_draw h) (hr.mono (by decide)) rfl h.g__law_draw h.f__law_draw.kp (bi__law_draw h) tk (da_cons (de_var (i := 0) rfl (.inr (.inl rfl))) (da_cons (de_bin o_add (de_var (i := 1) rfl (.inr (.inl rfl))) de_int) da_nil))) (da_cons (de_call (ok__law_draw h) (hr.mono (by decide)) rfl h.g__law_draw h.f__law_draw.kp (bi__law_draw h) tk (da_cons (de_var (i := 0) rfl (.inr (.inl rfl))) (da_cons (de_bin o_add (de_var (i := 1) rfl (.inr (.inl rfl))) de_int) da_nil))) da_nil)))))
 (dss_one (ds_setLc (own := [("lot", 14)]) (c := (.one 14)) (.inl rfl) rfl nd rfl rfl rfl (di_seq (de_var (i := 2) rfl (.inl rfl))) (blkOk_by (by kernel_rfl)) (by decide) (fun s H A cl fp => pg_name nd rfl (.inl rfl)) (fun s H A cl fp => dts_one (dt_cmp (o_in hr.b65) (de_callB c_len rfl h.n_len (by decide +kernel) (da_cons (de_var (i := 14) rfl (.inl rfl)) da_nil)) (de_var (i := 12) rfl (.inr (.inl rfl))) rfl)) (fun s H A cl fp => (de_var (i := 14) rfl (.inl rfl))))))
 dss_nil)
 (dss_cons (ds_set nd rfl (.inr rfl) (de_call (ok__law_pick h) (hr.mono (by decide)) rfl h.g__law_pick h.f__law_pick.kp (bi__law_pick h) tk (da_cons (de_var (i := 0) rfl (.inr (.inl rfl))) (da_cons (de_var (i := 2) rfl (.inl rfl)) da_nil))))
 (dss_cons (ds_setLc (own := [("lot", 14)]) (c := (.one 14)) (.inl rfl) rfl nd rfl rfl rfl (di_seq (de_var (i := 5) rfl (.inl rfl))) (blkOk_by (by kernel_rfl)) (by decide) (fun s H A cl fp => pg_name nd rfl (.inr rfl)) (fun s H A cl fp => dts_nil) (fun s H A cl fp => (NE.fz (ne_callB (c_sorted hr.b64) rfl h.n_sorted (by decide +kernel) (da_cons (NE.fz (ne_lc (own := [("place", 15)]) (c := (.one 15)) rfl nd (di_range1 rfl h.n_range (da_cons (de_var (i := 1) rfl (.inr (.inl rfl))) da_nil)) (blkOk_by (by kernel_rfl)) (by decide) (fun s H A cl fp => pg_name nd rfl (.inl rfl)) (fun s H A cl fp => dts_one (dt_cmp (o_ne hr.b64) (de_cmp (o_in hr.b65) (de_var (i := 15) rfl (.inl rfl)) (de_var (i := 14) rfl (.inr (.inl rfl))) rfl) (de_cmp (o_in hr.b65) (de_var (i := 15) rfl (.inl rfl)) (de_var (i := 13) rfl (.inr (.inl rfl))) rfl) rfl)) (fun s H A cl fp => (de_var (i := 15) rfl (.inl rfl))))) da_nil)))))
 (dss_one (ds_ret (de_orT (de_var (i := 5) rfl (.inl rfl)) (de_one (NE.fz (ne_lst (da_cons (de_var (i := 13) rfl (.inr (.inl rfl))) da_nil)))))))))))))
theorem sc__law_b_drawn : FnScope ["spring", "many", "names", "found", "lot", "place"] ["spring", "many"] (defScope st__law_b_drawn) := ⟨rfl, rfl, rfl, by decide +kernel, rfl, by decide +kernel, by decide +kernel⟩
theorem bi__law_b_drawn : Binds K h.d__law_b_drawn ["spring", "many"] [] := h.f__law_b_drawn.binds fun _ _ _ _ _ _ us hl => match us, hl with | [_, _], _ => rfl
theorem ok__law_b_drawn : FnOk P w K mg base (L2.CX P w) 5 h.a__law_b_drawn h.d__law_b_drawn ["spring", "many"] (spD C K F__law_b_drawn) := fn_def (N := ["spring", "many", "names", "found", "lot", "place"]) h.f__law_b_drawn sc__law_b_drawn fun cdv A outer s H E hr => by
  have nd := sc__law_b_drawn.nd
  have tk := tk_cx (P := P) (w := w) (K := K) (mg := mg) (base := base) (N := ["spring", "many", "names", "found", "lot", "place"]) (q := "_law_b_drawn") (sc := defScope st__law_b_drawn) (f := h.a__law_b_drawn) (cd := cdv) (A := A) (outer := outer) (s := s) (H := H) (E := E)
  have pso := own_cx (P := P) (w := w) (K := K) (mg := mg) (base := base) (N := ["spring", "many", "names", "found", "lot", "place"]) (q := "_law_b_drawn") (sc := defScope st__law_b_drawn) (f := h.a__law_b_drawn) (cd := cdv) (A := A) (outer := outer) (s := s) (H := H) (E := E)
  have fl := flatE (E := E)
  exact (dss_cons (ds_set nd rfl (.inr rfl) (NE.fz (ne_callB (c_sorted hr.b64) rfl h.n_sorted (by decide +kernel) (da_cons (de_call (ok__law_b_names h) (hr.mono (by decide)) rfl h.g__law_b_names h.f__law_b_names.kp (bi__law_b_names h) tk (da_cons (de_var (i := 0) rfl (.inl rfl)) (da_cons (de_var (i := 1) rfl (.inl rfl)) da_nil))) da_nil))))
 (dss_cons (ds_setLc (own := [("lot", 4)]) (c := (.one 4)) (.inl rfl) rfl nd rfl rfl rfl (di_seq (de_call (ok__law_b_shape h) (hr.mono (by decide)) rfl h.g__law_b_shape h.f__law_b_shape.kp (bi__law_b_shape h) tk (da_cons (de_var (i := 0) rfl (.inl rfl)) (da_cons (de_var (i := 1) rfl (.inl rfl)) da_nil)))) (blkOk_by (by kernel_rfl)) (by decide) (fun s H A cl fp => pg_name nd rfl (.inl rfl)) (fun s H A cl fp => dts_nil) (fun s H A cl fp => (NE.fz (ne_lc (own := [("place", 5)]) (c := (.one 5)) rfl nd (di_seq (de_var (i := 4) rfl (.inl rfl))) (blkOk_by (by kernel_rfl)) (by decide) (fun s H A cl fp => pg_name nd rfl (.inl rfl)) (fun s H A cl fp => dts_nil) (fun s H A cl fp => (de_ix hr.b1 (de_var (i := 2) rfl (.inr (.inl rfl))) (de_var (i := 5) rfl (.inl rfl))))))))
 (dss_one (ds_ret (de_tup (da_cons (de_call (ok__law_mixed h) (hr.mono (by decide)) rfl h.g__law_mixed h.f__law_mixed.kp (bi__law_mixed h) tk (da_cons (de_var (i := 0) rfl (.inl rfl)) (da_cons (de_var (i := 2) rfl (.inr (.inl rfl))) da_nil))) (da_cons (de_call (ok__law_mixed h) (hr.mono (by decide)) rfl h.g__law_mixed h.f__law_mixed.kp (bi__law_mixed h) tk (da_cons (de_var (i := 0) rfl (.inl rfl)) (da_cons (de_var (i := 3) rfl (.inl rfl)) da_nil))) da_nil)))))))
theorem sc__law_f_name : FnScope ["thing", "sign"] ["thing"] (defScope st__law_f_name) := ⟨rfl, rfl, rfl, by decide +kernel, rfl, by decide +kernel, by decide +kernel⟩
theorem bi__law_f_name : Binds K h.d__law_f_name ["thing"] [] := h.f__law_f_name.binds fun _ _ _ _ _ _ us hl => match us, hl with | [_], _ => rfl
theorem ok__law_f_name : FnOk P w K mg base (L2.CX P w) 2 h.a__law_f_name h.d__law_f_name ["thing"] (spD C K F__law_f_name) := fn_def (N := ["thing", "sign"]) h.f__law_f_name sc__law_f_name fun cdv A outer s H E hr => by
  have nd := sc__law_f_name.nd
  have tk := tk_cx (P := P) (w := w) (K := K) (mg := mg) (base := base) (N := ["thing", "sign"]) (q := "_law_f_name") (sc := defScope st__law_f_name) (f := h.a__law_f_name) (cd := cdv) (A := A) (outer := outer) (s := s) (H := H) (E := E)
  have pso := own_cx (P := P) (w := w) (K := K) (mg := mg) (base := base) (N := ["thing", "sign"]) (q := "_law_f_name") (sc := defScope st__law_f_name) (f := h.a__law_f_name) (cd := cdv) (A := A) (outer := outer) (s := s) (H := H) (E := E)
  have fl := flatE (E := E)
  exact (dss_cons (ds_if (DW.dt (dw_or (dt_not (dt_tr (de_is1 rfl h.n_isinstance (de_var (i := 0) rfl (.inl rfl)) rfl h.n_str (by decide +kernel) (by decide) (by decide) (kit7 rfl rfl rfl rfl rfl rfl rfl)))) (dw_or (dt_not (dt_chain o_le o_le de_int (de_callB c_len rfl h.n_len (by decide +kernel) (da_cons (de_var (i := 0) rfl (.inl rfl)) da_nil)) de_int)) (dw_or1 (dt_cmp (o_notIn hr.b65) (de_ix hr.b1 (de_var (i := 0) rfl (.inl rfl)) de_int) de_str rfl))))) (dss_one (ds_ret de_bl))
 dss_nil)
 (dss_one (ds_ret (de_callB (c_all rfl) rfl h.n_all (by decide +kernel) (da_cons (NE.fz (ne_lc (own := [("sign", 1)]) (c := (.one 1)) rfl nd (di_seq (de_var (i := 0) rfl (.inl rfl))) (blkOk_by (by kernel_rfl)) (by decide) (fun s H A cl fp => pg_name nd rfl (.inl rfl)) (fun s H A cl fp => dts_nil) (fun s H A cl fp => (de_cmp (o_in hr.b65) (de_var (i := 1) rfl (.inl rfl)) de_str rfl)))) da_nil)))))
theorem sc__law_f_names : FnScope ["thing", "one"] ["thing"] (defScope st__law_f_names) := ⟨rfl, rfl, rfl, by decide +kernel, rfl, by decide +kernel, by decide +kernel⟩
theorem bi__law_f_names : Binds K h.d__law_f_names ["thing"] [] := h.f__law_f_names.binds fun _ _ _ _ _ _ us hl => match us, hl with | [_], _ => rfl
theorem ok__law_f_names : FnOk P w K mg base (L2.CX P w) 3 h.a__law_f_names h.d__law_f_names ["thing"] (spD C K F__law_f_names) := fn_def (N := ["thing", "one"]) h.f__law_f_names sc__law_f_names fun cdv A outer s H E hr => by
  have nd := sc__law_f_names.nd
  have tk := tk_cx (P := P) (w := w) (K := K) (mg := mg) (base := base) (N := ["thing", "one"]) (q := "_law_f_names") (sc := defScope st__law_f_names) (f := h.a__law_f_names) (cd := cdv) (A := A) (outer := outer) (s := s) (H := H) (E := E)
  have pso := own_cx (P := P) (w := w) (K := K) (mg := mg) (base := base) (N := ["thing", "one"]) (q := "_law_f_names") (sc := defScope st__law_f_names) (f := h.a__law_f_names) (cd := cdv) (A := A) (outer := outer) (s := s) (H := H) (E := E)
  have fl := flatE (E := E)
  exact (dss_cons (ds_if (DW.dt (dw_or (dt_not (dt_tr (de_isiT (tb := tbOf ["list", "tuple"]) (cb := fun _ => none) (cvs := [.ty "list", .ty "tuple"]) (us := [.type "list", .type "tuple"]) rfl h.n_isinstance (de_var (i := 0) rfl (.inl rfl)) (.cons (.ty _) (.cons (.ty _) .nil)) (by decide) (kit7 rfl rfl rfl rfl rfl rfl rfl) (fun c b z => nomatch z) (hcs := (pa_ty (pa_ty pa_ty0 rfl h.n_tuple (by decide +kernel) (by decide) (by decide)) rfl h.n_list (by decide +kernel) (by decide) (by decide)))))) (dw_or (dt_not (dt_chain o_le o_le de_int (de_callB c_len rfl h.n_len (by decide +kernel) (da_cons (de_var (i := 0) rfl (.inl rfl)) da_nil)) de_int)) (dw_or1 (dt_not (dt_tr (de_callB (c_all rfl) rfl h.n_all (by decide +kernel) (da_cons (NE.fz (ne_lc (own := [("one", 1)]) (c := (.one 1)) rfl nd (di_seq (de_var (i := 0) rfl (.inl rfl))) (blkOk_by (by kernel_rfl)) (by decide) (fun s H A cl fp => pg_name nd rfl (.inl rfl)) (fun s H A cl fp => dts_nil) (fun s H A cl fp => (de_call (ok__law_f_name h) (hr.mono (by decide)) rfl h.g__law_f_name h.f__law_f_name.kp (bi__law_f_name h) takes0 (da_cons (de_var (i := 1) rfl (.inl rfl)) da_nil))))) da_nil)))))))) (dss_one (ds_ret de_bl))
 dss_nil)
 (dss_one (ds_ret (de_cmp (o_eq hr.b64) (de_callB c_len rfl h.n_len (by decide +kernel) (da_cons (de_callTy (c_dict rfl hr.b8) rfl h.n_dict (by decide +kernel) (da_cons (NE.fz (ne_lc (own := [("one", 1)]) (c := (.one 1)) rfl nd (di_seq (de_var (i := 0) rfl (.inl rfl))) (blkOk_by (by kernel_rfl)) (by decide) (fun s H A cl fp => pg_name nd rfl (.inl rfl)) (fun s H A cl fp => dts_nil) (fun s H A cl fp => (de_tup (da_cons (de_var (i := 1) rfl (.inl rfl)) (da_cons de_int da_nil)))))) da_nil)) da_nil)) (de_callB c_len rfl h.n_len (by decide +kernel) (da_cons (de_var (i := 0) rfl (.inl rfl)) da_nil)) rfl))))
theorem sc__law_b_some : FnScope ["spring", "names", "one"] ["spring", "names"] (defScope st__law_b_some) := ⟨rfl, rfl, rfl, by decide +kernel, rfl, by decide +kernel, by decide +kernel⟩
theorem bi__law_b_some : Binds K h.d__law_b_some ["spring", "names"] [] := h.f__law_b_some.binds fun _ _ _ _ _ _ us hl => match us, hl with | [_, _], _ => rfl
theorem ok__law_b_some : FnOk P w K mg base (L2.CX P w) 3 h.a__law_b_some h.d__law_b_some ["spring", "names"] (spD C K F__law_b_some) := fn_def (N := ["spring", "names", "one"]) h.f__law_b_some sc__law_b_some fun cdv A outer s H E hr => by
  have nd := sc__law_b_some.nd
  have tk := tk_cx (P := P) (w := w) (K := K) (mg := mg) (base := base) (N := ["spring", "names", "one"]) (q := "_law_b_some") (sc := defScope st__law_b_some) (f := h.a__law_b_some) (cd := cdv) (A := A) (outer := outer) (s := s) (H := H) (E := E)
  have pso := own_cx (P := P) (w := w) (K := K) (mg := mg) (base := base) (N := ["spring", "names", "one"]) (q := "_law_b_some") (sc := defScope st__law_b_some) (f := h.a__law_b_some) (cd := cdv) (A := A) (outer := outer) (s := s) (H := H) (E := E)
  have fl := flatE (E := E)
  exact (dss_one (ds_ret (NE.fz (ne_callB (c_sorted hr.b64) rfl h.n_sorted (by decide +kernel) (da_cons (NE.fz (ne_lc (own := [("one", 2)]) (c := (.one 2)) rfl nd (di_seq (de_var (i := 1) rfl (.inl rfl))) (blkOk_by (by kernel_rfl)) (by decide) (fun s H A cl fp => pg_name nd rfl (.inl rfl)) (fun s H A cl fp => dts_one (dt_cmp o_gt (de_call (ok__law_draw h) (hr.mono (by decide)) rfl h.g__law_draw h.f__law_draw.kp (bi__law_draw h) takes0 (da_cons (de_var (i := 0) rfl (.inr (.inl rfl))) (da_cons de_int da_nil))) de_int rfl)) (fun s H A cl fp => (de_var (i := 2) rfl (.inl rfl))))) da_nil)))))
theorem sc__law_b_lot : FnScope ["names", "thing", "one", "other"] ["names", "thing"] (defScope st__law_b_lot) := ⟨rfl, rfl, rfl, by decide +kernel, rfl, by decide +kernel, by decide +kernel⟩
theorem bi__law_b_lot : Binds K h.d__law_b_lot ["names", "thing"] [] := h.f__law_b_lot.binds fun _ _ _ _ _ _ us hl => match us, hl with | [_, _], _ => rfl
theorem ok__law_b_lot : FnOk P w K mg base (L2.CX P w) 2 h.a__law_b_lot h.d__law_b_lot ["names", "thing"] (spD C K F__law_b_lot) := fn_def (N := ["names", "thing", "one", "other"]) h.f__law_b_lot sc__law_b_lot fun cdv A outer s H E hr => by
  have nd := sc__law_b_lot.nd
  have tk := tk_cx (P := P) (w := w) (K := K) (mg := mg) (base := base) (N := ["names", "thing", "one", "other"]) (q := "_law_b_lot") (sc := defScope st__law_b_lot) (f := h.a__law_b_lot) (cd := cdv) (A := A) (outer := outer) (s := s) (H := H) (E := E)
  have pso := own_cx (P := P) (w := w) (K := K) (mg := mg) (base := base) (N := ["names", "thing", "one", "other"]) (q := "_law_b_lot") (sc := defScope st__law_b_lot) (f := h.a__law_b_lot) (cd := cdv) (A := A) (outer := outer) (s := s) (H := H) (E := E)
  have fl := flatE (E := E)
  exact (dss_cons (ds_if (DW.dt (dw_or (dt_not (dt_tr (de_isiT (tb := tbOf ["list", "tuple"]) (cb := fun _ => none) (cvs := [.ty "list", .ty "tuple"]) (us := [.type "list", .type "tuple"]) rfl h.n_isinstance (de_var (i := 1) rfl (.inl rfl)) (.cons (.ty _) (.cons (.ty _) .nil)) (by decide) (kit7 rfl rfl rfl rfl rfl rfl rfl) (fun c b z => nomatch z) (hcs := (pa_ty (pa_ty pa_ty0 rfl h.n_tuple (by decide +kernel) (by decide) (by decide)) rfl h.n_list (by decide +kernel) (by decide) (by decide)))))) (dw_or1 (dt_not (dt_tr (de_callB (c_all rfl) rfl h.n_all (by decide +kernel) (da_cons (NE.fz (ne_lc (own := [("one", 2)]) (c := (.one 2)) rfl nd (di_seq (de_var (i := 1) rfl (.inl rfl))) (blkOk_by (by kernel_rfl)) (by decide) (fun s H A cl fp => pg_name nd rfl (.inl rfl)) (fun s H A cl fp => dts_nil) (fun s H A cl fp => (de_andT (de_is1 rfl h.n_isinstance (de_var (i := 2) rfl (.inl rfl)) rfl h.n_str (by decide +kernel) (by decide) (by decide) (kit7 rfl rfl rfl rfl rfl rfl rfl)) (de_one (de_cmp (o_in hr.b65) (de_var (i := 2) rfl (.inl rfl)) (de_var (i := 0) rfl (.inr (.inl rfl))) rfl)))))) da_nil))))))) (dss_one (ds_ret de_bl))
 dss_nil)
 (dss_one (ds_ret (de_callB (c_all rfl) rfl h.n_all (by decide +kernel) (da_cons (NE.fz (ne_lc (own := [("one", 2), ("other", 3)]) (c := (.many [2, 3])) rfl nd (di_zip rfl h.n_zip (da_cons (de_var (i := 1) rfl (.inl rfl)) (da_cons (de_slice (de_var (i := 1) rfl (.inl rfl)) (dp_at de_int) dp_no) da_nil))) (blkOk_by (by kernel_rfl)) (by decide) (fun s H A cl fp => ⟨pg_tup rfl (pgs_cons (pg_name nd rfl (.inl rfl)) (pgs_cons (pg_name nd rfl (.inl rfl)) pgs_nil)), pg_lst rfl (pgs_cons (pg_name nd rfl (.inl rfl)) (pgs_cons (pg_name nd rfl (.inl rfl)) pgs_nil))⟩) (fun s H A cl fp => dts_nil) (fun s H A cl fp => (de_cmp o_lt (de_var (i := 2) rfl (.inl rfl)) (de_var (i := 3) rfl (.inl rfl)) rfl)))) da_nil)))))
theorem sc__law_f_lots : FnScope ["names", "thing", "lot"] ["names", "thing"] (defScope st__law_f_lots) := ⟨rfl, rfl, rfl, by decide +kernel, rfl, by decide +kernel, by decide +kernel⟩
theorem bi__law_f_lots : Binds K h.d__law_f_lots ["names", "thing"] [] := h.f__law_f_lots.binds fun _ _ _ _ _ _ us hl => match us, hl with | [_, _], _ => rfl
theorem ok__law_f_lots : FnOk P w K mg base (L2.CX P w) 3 h.a__law_f_lots h.d__law_f_lots ["names", "thing"] (spD C K F__law_f_lots) := fn_def (N := ["names", "thing", "lot"]) h.f__law_f_lots sc__law_f_lots fun cdv A outer s H E hr => by
  have nd := sc__law_f_lots.nd
  have tk := tk_cx (P := P) (w := w) (K := K) (mg := mg) (base := base) (N := ["names", "thing", "lot"]) (q := "_law_f_lots") (sc := defScope st__law_f_lots) (f := h.a__law_f_lots) (cd := cdv) (A := A) (outer := outer) (s := s) (H := H) (E := E)
  have pso := own_cx (P := P) (w := w) (K := K) (mg := mg) (base := base) (N := ["names", "thing", "lot"]) (q := "_law_f_lots") (sc := defScope st__law_f_lots) (f := h.a__law_f_lots) (cd := cdv) (A := A) (outer := outer) (s := s) (H := H) (E := E)
  have fl := flatE (E := E)
  exact (dss_cons (ds_if (DW.dt (dw_or (dt_not (dt_tr (de_isiT (tb := tbOf ["list", "tuple"]) (cb := fun _ => none) (cvs := [.ty "list", .ty "tuple"]) (us := [.type "list", .type "tuple"]) rfl h.n_isinstance (de_var (i := 1) rfl (.inl rfl)) (.cons (.ty _) (.cons (.ty _) .nil)) (by decide) (kit7 rfl rfl rfl rfl rfl rfl rfl) (fun c b z => nomatch z) (hcs := (pa_ty (pa_ty pa_ty0 rfl h.n_tuple (by decide +kernel) (by decide) (by decide)) rfl h.n_list (by decide +kernel) (by decide) (by decide)))))) (dw_or (dt_cmp (o_eq hr.b64) (de_callB c_len rfl h.n_len (by decide +kernel) (da_cons (de_var (i := 1) rfl (.inl rfl)) da_nil)) de_int rfl) (dw_or1 (dt_not (dt_tr (de_callB (c_all rfl) rfl h.n_all (by decide +kernel) (da_cons (NE.fz (ne_lc (own := [("lot", 2)]) (c := (.one 2)) rfl nd (di_seq (de_var (i := 1) rfl (.inl rfl))) (blkOk_by (by kernel_rfl)) (by decide) (fun s H A cl fp => pg_name nd rfl (.inl rfl)) (fun s H A cl fp => dts_nil) (fun s H A cl fp => (de_call (ok__law_b_lot h) (hr.mono (by decide)) rfl h.g__law_b_lot h.f__law_b_lot.kp (bi__law_b_lot h) takes0 (da_cons (de_var (i := 0) rfl (.inr (.inl rfl))) (da_cons (de_var (i := 2) rfl (.inl rfl)) da_nil)))))) da_nil)))))))) (dss_one (ds_ret de_bl))
 dss_nil)
 (dss_one (ds_ret (de_cmp (o_eq hr.b64) (de_callB c_len rfl h.n_len (by decide +kernel) (da_cons (de_callTy (c_dict rfl hr.b8) rfl h.n_dict (by decide +kernel) (da_cons (NE.fz (ne_lc (own := [("lot", 2)]) (c := (.one 2)) rfl nd (di_seq (de_var (i := 1) rfl (.inl rfl))) (blkOk_by (by kernel_rfl)) (by decide) (fun s H A cl fp => pg_name nd rfl (.inl rfl)) (fun s H A cl fp => dts_nil) (fun s H A cl fp => (de_tup (da_cons (de_callTy c_tuple rfl h.n_tuple (by decide +kernel) (da_cons (de_var (i := 2) rfl (.inl rfl)) da_nil)) (da_cons de_int da_nil)))))) da_nil)) da_nil)) (de_callB c_len rfl h.n_len (by decide +kernel) (da_cons (de_var (i := 1) rfl (.inl rfl)) da_nil)) rfl))))
theorem sc__law_f_met : FnScope ["query", "e"] ["query"] (defScope st__law_f_met) := ⟨rfl, rfl, rfl, by decide +kernel, rfl, by decide +kernel, by decide +kernel⟩
theorem bi__law_f_met : Binds K h.d__law_f_met ["query"] [] := h.f__law_f_met.binds fun _ _ _ _ _ _ us hl => match us, hl with | [_], _ => rfl
include h in
theorem tf__law_f_met : ∀ p ∈ ([(0, "names", "given"), (1, "lots", "given")] : List ClaD), C.cf p.1 = [p.2.2] := fun p hp => by
  simp only [List.mem_cons, List.mem_nil_iff, or_false] at hp
  rcases hp with rfl | rfl
  · exact h.e_BadNames.cf
  · exact h.e_BadLots.cf
include h in
theorem tx__law_f_met : ∀ p ∈ ([(0, "names", "given"), (1, "lots", "given")] : List ClaD), ∀ k ∈ ([0, 1] : List Nat), PySem.W.exmOne K (.ref (C.ca k)) (.ref (C.ca p.1)) = some (decide (k = p.1)) := fun p hp k hk => h.exm k p.1 (by revert hk; revert k; decide) (by revert hp; revert p; simp)
theorem met__law_f_met {k : Nat} : MetOk C P w K mg base (k + 1) "_law_f_met" "_law_f_met" "query" st__law_f_met h.a__law_f_met h.d__law_f_met ["query", "e"] ["query"] m__law_f_met := ⟨h.f__law_f_met, sc__law_f_met, rfl, .inl rfl, fun cdv A outer s H E r i q hr act => by
  have nd := sc__law_f_met.nd
  have tk := tk_cx (P := P) (w := w) (K := K) (mg := mg) (base := base) (N := ["query", "e"]) (q := "_law_f_met") (sc := defScope st__law_f_met) (f := h.a__law_f_met) (cd := cdv) (A := A) (outer := outer) (s := s) (H := H) (E := E)
  have pso := own_cx (P := P) (w := w) (K := K) (mg := mg) (base := base) (N := ["query", "e"]) (q := "_law_f_met") (sc := defScope st__law_f_met) (f := h.a__law_f_met) (cd := cdv) (A := A) (outer := outer) (s := s) (H := H) (E := E)
  have fl := flatE (E := E)
  exact (dss_cons (ds_tryF (i := 1) (known := [0, 1]) (hs := [(0, "names", "given"), (1, "lots", "given")]) rfl rfl nd tk (fun W pn xe tk pso =>
 (dss_one (ds_expr (act pn xe W _ _ tk)))) (cla_cons (c := 0) ⟨rfl, by decide, .inl h.e_BadNames.m⟩ rfl rfl h.e_BadNames.xf h.e_BadNames.nf (cla_cons (c := 1) ⟨rfl, by decide, .inl h.e_BadLots.m⟩ rfl rfl h.e_BadLots.xf h.e_BadLots.nf cla_nil)) (tf__law_f_met (C := C) (P := P) (w := w) (K := K) (mg := mg) h) (tx__law_f_met (C := C) (P := P) (w := w) (K := K) (mg := mg) h))
 (dss_one (ds_ret (NE.fz (ne_lst (da_cons de_str (da_cons de_non da_nil)))))))⟩
theorem sc_is_list : FnScope ["thing"] ["thing"] (defScope st_is_list) := ⟨rfl, rfl, rfl, by decide +kernel, rfl, by decide +kernel, by decide +kernel⟩
theorem bi_is_list : Binds K h.d_is_list ["thing"] [] := h.f_is_list.binds fun _ _ _ _ _ _ us hl => match us, hl with | [_], _ => rfl
theorem ok_is_list : FnOk P w K mg base (L2.CX P w) 2 h.a_is_list h.d_is_list ["thing"] (spD C K F_is_list) := fn_def (N := ["thing"]) h.f_is_list sc_is_list fun cdv A outer s H E hr => by
  have nd := sc_is_list.nd
  have tk := tk_cx (P := P) (w := w) (K := K) (mg := mg) (base := base) (N := ["thing"]) (q := "is_list") (sc := defScope st_is_list) (f := h.a_is_list) (cd := cdv) (A := A) (outer := outer) (s := s) (H := H) (E := E)
  have pso := own_cx (P := P) (w := w) (K := K) (mg := mg) (base := base) (N := ["thing"]) (q := "is_list") (sc := defScope st_is_list) (f := h.a_is_list) (cd := cdv) (A := A) (outer := outer) (s := s) (H := H) (E := E)
  have fl := flatE (E := E)
  exact (dss_one (ds_ret (de_isiT (tb := tbOf ["list", "tuple"]) (cb := fun _ => none) (cvs := [.ty "list", .ty "tuple"]) (us := [.type "list", .type "tuple"]) rfl h.n_isinstance (de_var (i := 0) rfl (.inl rfl)) (.cons (.ty _) (.cons (.ty _) .nil)) (by decide) (kit7 rfl rfl rfl rfl rfl rfl rfl) (fun c b z => nomatch z) (hcs := (pa_ty (pa_ty pa_ty0 rfl h.n_tuple (by decide +kernel) (by decide) (by decide)) rfl h.n_list (by decide +kernel) (by decide) (by decide))))))
theorem sc_is_lot : FnScope ["names", "thing", "index", "one"] ["names", "thing"] (defScope st_is_lot) := ⟨rfl, rfl, rfl, by decide +kernel, rfl, by decide +kernel, by decide +kernel⟩
theorem bi_is_lot : Binds K h.d_is_lot ["names", "thing"] [] := h.f_is_lot.binds fun _ _ _ _ _ _ us hl => match us, hl with | [_, _], _ => rfl
theorem ok_is_lot : FnOk P w K mg base (L2.CX P w) 3 h.a_is_lot h.d_is_lot ["names", "thing"] (spD C K F_is_lot) := fn_def (N := ["names", "thing", "index", "one"]) h.f_is_lot sc_is_lot fun cdv A outer s H E hr => by
  have nd := sc_is_lot.nd
  have tk := tk_cx (P := P) (w := w) (K := K) (mg := mg) (base := base) (N := ["names", "thing", "index", "one"]) (q := "is_lot") (sc := defScope st_is_lot) (f := h.a_is_lot) (cd := cdv) (A := A) (outer := outer) (s := s) (H := H) (E := E)
  have pso := own_cx (P := P) (w := w) (K := K) (mg := mg) (base := base) (N := ["names", "thing", "index", "one"]) (q := "is_lot") (sc := defScope st_is_lot) (f := h.a_is_lot) (cd := cdv) (A := A) (outer := outer) (s := s) (H := H) (E := E)
  have fl := flatE (E := E)
  exact (dss_cons (ds_if (DW.dt (dw_or (dt_not (dt_tr (de_call (ok_is_list h) (hr.mono (by decide)) rfl h.g_is_list h.f_is_list.kp (bi_is_list h) tk (da_cons (de_var (i := 1) rfl (.inr (.inl rfl))) da_nil)))) (dw_or1 (dt_not (dt_tr (de_callB (c_all rfl) rfl h.n_all (by decide +kernel) (da_cons (NE.fz (ne_lc (own := [("one", 3)]) (c := (.one 3)) rfl nd (di_seq (de_var (i := 1) rfl (.inr (.inl rfl)))) (blkOk_by (by kernel_rfl)) (by decide) (fun s H A cl fp => pg_name nd rfl (.inl rfl)) (fun s H A cl fp => dts_nil) (fun s H A cl fp => (de_andT (de_is1 rfl h.n_isinstance (de_var (i := 3) rfl (.inl rfl)) rfl h.n_str (by decide +kernel) (by decide) (by decide) (kit7 rfl rfl rfl rfl rfl rfl rfl)) (de_one (de_cmp (o_in hr.b65) (de_var (i := 3) rfl (.inl rfl)) (de_var (i := 0) rfl (.inr (.inl rfl))) rfl)))))) da_nil))))))) (dss_one (ds_ret de_bl))
 dss_nil)
 (dss_one (ds_ret (de_callB (c_all rfl) rfl h.n_all (by decide +kernel) (da_cons (NE.fz (ne_lc (own := [("index", 2)]) (c := (.one 2)) rfl nd (di_range2 rfl h.n_range (da_cons de_int (da_cons (de_callB c_len rfl h.n_len (by decide +kernel) (da_cons (de_var (i := 1) rfl (.inr (.inl rfl))) da_nil)) da_nil))) (blkOk_by (by kernel_rfl)) (by decide) (fun s H A cl fp => pg_name nd rfl (.inl rfl)) (fun s H A cl fp => dts_nil) (fun s H A cl fp => (de_cmp o_lt (de_ix hr.b1 (de_var (i := 1) rfl (.inr (.inl rfl))) (de_bin o_sub (de_var (i := 2) rfl (.inl rfl)) de_int)) (de_ix hr.b1 (de_var (i := 1) rfl (.inr (.inl rfl))) (de_var (i := 2) rfl (.inl rfl))) rfl)))) da_nil)))))
theorem sc_are_right_lots : FnScope ["names", "thing", "lot"] ["names", "thing"] (defScope st_are_right_lots) := ⟨rfl, rfl, rfl, by decide +kernel, rfl, by decide +kernel, by decide +kernel⟩
theorem bi_are_right_lots : Binds K h.d_are_right_lots ["names", "thing"] [] := h.f_are_right_lots.binds fun _ _ _ _ _ _ us hl => match us, hl with | [_, _], _ => rfl
theorem ok_are_right_lots : FnOk P w K mg base (L2.CX P w) 4 h.a_are_right_lots h.d_are_right_lots ["names", "thing"] (spD C K F_are_right_lots) := fn_def (N := ["names", "thing", "lot"]) h.f_are_right_lots sc_are_right_lots fun cdv A outer s H E hr => by
  have nd := sc_are_right_lots.nd
  have tk := tk_cx (P := P) (w := w) (K := K) (mg := mg) (base := base) (N := ["names", "thing", "lot"]) (q := "are_right_lots") (sc := defScope st_are_right_lots) (f := h.a_are_right_lots) (cd := cdv) (A := A) (outer := outer) (s := s) (H := H) (E := E)
  have pso := own_cx (P := P) (w := w) (K := K) (mg := mg) (base := base) (N := ["names", "thing", "lot"]) (q := "are_right_lots") (sc := defScope st_are_right_lots) (f := h.a_are_right_lots) (cd := cdv) (A := A) (outer := outer) (s := s) (H := H) (E := E)
  have fl := flatE (E := E)
  exact (dss_cons (ds_if (DW.dt (dw_or (dt_not (dt_tr (de_call (ok_is_list h) (hr.mono (by decide)) rfl h.g_is_list h.f_is_list.kp (bi_is_list h) tk (da_cons (de_var (i := 1) rfl (.inl rfl)) da_nil)))) (dw_or (dt_cmp (o_eq hr.b64) (de_callB c_len rfl h.n_len (by decide +kernel) (da_cons (de_var (i := 1) rfl (.inl rfl)) da_nil)) de_int rfl) (dw_or1 (dt_not (dt_tr (de_callB (c_all rfl) rfl h.n_all (by decide +kernel) (da_cons (NE.fz (ne_lc (own := [("lot", 2)]) (c := (.one 2)) rfl nd (di_seq (de_var (i := 1) rfl (.inl rfl))) (blkOk_by (by kernel_rfl)) (by decide) (fun s H A cl fp => pg_name nd rfl (.inl rfl)) (fun s H A cl fp => dts_nil) (fun s H A cl fp => (de_call (ok_is_lot h) (hr.mono (by decide)) rfl h.g_is_lot h.f_is_lot.kp (bi_is_lot h) takes0 (da_cons (de_var (i := 0) rfl (.inr (.inl rfl))) (da_cons (de_var (i := 2) rfl (.inl rfl)) da_nil)))))) da_nil)))))))) (dss_one (ds_ret de_bl))
 dss_nil)
 (dss_one (ds_ret (de_cmp (o_eq hr.b64) (de_callB c_len rfl h.n_len (by decide +kernel) (da_cons (de_dcT (own := [("lot", 2)]) (c := (.one 2)) hr.b1 rfl nd (di_seq (de_var (i := 1) rfl (.inl rfl))) (blkOk_by (by kernel_rfl)) (by decide) (fun s H A cl fp => pg_name nd rfl (.inl rfl)) (fun s H A cl fp => dts_nil) (fun s H A cl fp => (de_callTy c_tuple rfl h.n_tuple (by decide +kernel) (da_cons (de_var (i := 2) rfl (.inl rfl)) da_nil))) (fun s H A cl fp => de_bl)) da_nil)) (de_callB c_len rfl h.n_len (by decide +kernel) (da_cons (de_var (i := 1) rfl (.inl rfl)) da_nil)) rfl))))
theorem sc_is_name : FnScope ["thing", "sign"] ["thing"] (defScope st_is_name) := ⟨rfl, rfl, rfl, by decide +kernel, rfl, by decide +kernel, by decide +kernel⟩
theorem bi_is_name : Binds K h.d_is_name ["thing"] [] := h.f_is_name.binds fun _ _ _ _ _ _ us hl => match us, hl with | [_], _ => rfl
theorem ok_is_name : FnOk P w K mg base (L2.CX P w) 2 h.a_is_name h.d_is_name ["thing"] (spD C K F_is_name) := fn_def (N := ["thing", "sign"]) h.f_is_name sc_is_name fun cdv A outer s H E hr => by
  have nd := sc_is_name.nd
  have tk := tk_cx (P := P) (w := w) (K := K) (mg := mg) (base := base) (N := ["thing", "sign"]) (q := "is_name") (sc := defScope st_is_name) (f := h.a_is_name) (cd := cdv) (A := A) (outer := outer) (s := s) (H := H) (E := E)
  have pso := own_cx (P := P) (w := w) (K := K) (mg := mg) (base := base) (N := ["thing", "sign"]) (q := "is_name") (sc := defScope st_is_name) (f := h.a_is_name) (cd := cdv) (A := A) (outer := outer) (s := s) (H := H) (E := E)
  have fl := flatE (E := E)
  exact (dss_cons (ds_if (DW.dt (dw_or (dt_not (dt_tr (de_is1 rfl h.n_isinstance (de_var (i := 0) rfl (.inl rfl)) rfl h.n_str (by decide +kernel) (by decide) (by decide) (kit7 rfl rfl rfl rfl rfl rfl rfl)))) (dw_or1 (dt_not (dt_chain o_le o_le de_int (de_callB c_len rfl h.n_len (by decide +kernel) (da_cons (de_var (i := 0) rfl (.inl rfl)) da_nil)) de_int))))) (dss_one (ds_ret de_bl))
 dss_nil)
 (dss_cons (ds_if (dt_cmp (o_notIn hr.b65) (de_ix hr.b1 (de_var (i := 0) rfl (.inl rfl)) de_int) (de_glob rfl h.k_LETTERS h.r_LETTERS (fun _ _ => rfl)) rfl) (dss_one (ds_ret de_bl))
 dss_nil)
 (dss_one (ds_ret (de_callB (c_all rfl) rfl h.n_all (by decide +kernel) (da_cons (NE.fz (ne_lc (own := [("sign", 1)]) (c := (.one 1)) rfl nd (di_seq (de_var (i := 0) rfl (.inl rfl))) (blkOk_by (by kernel_rfl)) (by decide) (fun s H A cl fp => pg_name nd rfl (.inl rfl)) (fun s H A cl fp => dts_nil) (fun s H A cl fp => (de_cmp (o_in hr.b65) (de_var (i := 1) rfl (.inl rfl)) (de_glob rfl h.k_SIGNS h.r_SIGNS (fun _ _ => rfl)) rfl)))) da_nil))))))
theorem sc_are_names : FnScope ["thing", "one"] ["thing"] (defScope st_are_names) := ⟨rfl, rfl, rfl, by decide +kernel, rfl, by decide +kernel, by decide +kernel⟩
theorem bi_are_names : Binds K h.d_are_names ["thing"] [] := h.f_are_names.binds fun _ _ _ _ _ _ us hl => match us, hl with | [_], _ => rfl
theorem ok_are_names : FnOk P w K mg base (L2.CX P w) 3 h.a_are_names h.d_are_names ["thing"] (spD C K F_are_names) := fn_def (N := ["thing", "one"]) h.f_are_names sc_are_names fun cdv A outer s H E hr => by
  have nd := sc_are_names.nd
  have tk := tk_cx (P := P) (w := w) (K := K) (mg := mg) (base := base) (N := ["thing", "one"]) (q := "are_names") (sc := defScope st_are_names) (f := h.a_are_names) (cd := cdv) (A := A) (outer := outer) (s := s) (H := H) (E := E)
  have pso := own_cx (P := P) (w := w) (K := K) (mg := mg) (base := base) (N := ["thing", "one"]) (q := "are_names") (sc := defScope st_are_names) (f := h.a_are_names) (cd := cdv) (A := A) (outer := outer) (s := s) (H := H) (E := E)
  have fl := flatE (E := E)
  exact (dss_cons (ds_if (DW.dt (dw_or (dt_not (dt_tr (de_call (ok_is_list h) (hr.mono (by decide)) rfl h.g_is_list h.f_is_list.kp (bi_is_list h) tk (da_cons (de_var (i := 0) rfl (.inl rfl)) da_nil)))) (dw_or (dt_not (dt_chain o_le o_le de_int (de_callB c_len rfl h.n_len (by decide +kernel) (da_cons (de_var (i := 0) rfl (.inl rfl)) da_nil)) (de_glob rfl h.k_EIGHT h.r_EIGHT (fun _ _ => rfl)))) (dw_or1 (dt_not (dt_tr (de_callB (c_all rfl) rfl h.n_all (by decide +kernel) (da_cons (NE.fz (ne_lc (own := [("one", 1)]) (c := (.one 1)) rfl nd (di_seq (de_var (i := 0) rfl (.inl rfl))) (blkOk_by (by kernel_rfl)) (by decide) (fun s H A cl fp => pg_name nd rfl (.inl rfl)) (fun s H A cl fp => dts_nil) (fun s H A cl fp => (de_call (ok_is_name h) (hr.mono (by decide)) rfl h.g_is_name h.f_is_name.kp (bi_is_name h) takes0 (da_cons (de_var (i := 1) rfl (.inl rfl)) da_nil))))) da_nil)))))))) (dss_one (ds_ret de_bl))
 dss_nil)
 (dss_one (ds_ret (de_cmp (o_eq hr.b64) (de_callB c_len rfl h.n_len (by decide +kernel) (da_cons (de_dcK (own := [("one", 1)]) (c := (.one 1)) rfl nd (di_seq (de_var (i := 0) rfl (.inl rfl))) (blkOk_by (by kernel_rfl)) (by decide) (fun s H A cl fp => pg_name nd rfl (.inl rfl)) (fun s H A cl fp => dts_nil) (fun s H A cl fp => (de_var (i := 1) rfl (.inl rfl))) (fun s H A cl fp => de_bl)) da_nil)) (de_callB c_len rfl h.n_len (by decide +kernel) (da_cons (de_var (i := 0) rfl (.inl rfl)) da_nil)) rfl))))
theorem sc_are_lots : FnScope ["names", "thing"] ["names", "thing"] (defScope st_are_lots) := ⟨rfl, rfl, rfl, by decide +kernel, rfl, by decide +kernel, by decide +kernel⟩
theorem bi_are_lots : Binds K h.d_are_lots ["names", "thing"] [] := h.f_are_lots.binds fun _ _ _ _ _ _ us hl => match us, hl with | [_, _], _ => rfl
theorem ok_are_lots : FnOk P w K mg base (L2.CX P w) 5 h.a_are_lots h.d_are_lots ["names", "thing"] (spD C K F_are_lots) := fn_def (N := ["names", "thing"]) h.f_are_lots sc_are_lots fun cdv A outer s H E hr => by
  have nd := sc_are_lots.nd
  have tk := tk_cx (P := P) (w := w) (K := K) (mg := mg) (base := base) (N := ["names", "thing"]) (q := "are_lots") (sc := defScope st_are_lots) (f := h.a_are_lots) (cd := cdv) (A := A) (outer := outer) (s := s) (H := H) (E := E)
  have pso := own_cx (P := P) (w := w) (K := K) (mg := mg) (base := base) (N := ["names", "thing"]) (q := "are_lots") (sc := defScope st_are_lots) (f := h.a_are_lots) (cd := cdv) (A := A) (outer := outer) (s := s) (H := H) (E := E)
  have fl := flatE (E := E)
  exact (dss_cons (ds_if (dt_not (dt_tr (de_call (ok_are_names h) (hr.mono (by decide)) rfl h.g_are_names h.f_are_names.kp (bi_are_names h) tk (da_cons (de_var (i := 0) rfl (.inl rfl)) da_nil)))) (dss_one (ds_raise (c := 0) rfl tk h.e_BadNames.ox h.e_BadNames.init h.e_BadNames.ti h.e_BadNames.cf (h.e_BadNames.ok base 0) (hr.mono (by decide)) h.e_BadNames.b rfl h.e_BadNames.m (de_var (i := 0) rfl (.inl rfl))))
 dss_nil)
 (dss_one (ds_ret (de_call (ok_are_right_lots h) (hr.mono (by decide)) rfl h.g_are_right_lots h.f_are_right_lots.kp (bi_are_right_lots h) tk (da_cons (NE.fz (ne_callTy (c_list rfl) rfl h.n_list (by decide +kernel) (da_cons (de_var (i := 0) rfl (.inl rfl)) da_nil))) (da_cons (de_var (i := 1) rfl (.inl rfl)) da_nil))))))
theorem sc__law_same : FnScope ["found", "due", "is_alike", "one", "other"] ["found", "due"] (defScope st__law_same) := ⟨rfl, rfl, rfl, by decide +kernel, rfl, by decide +kernel, by decide +kernel⟩
theorem bi__law_same : Binds K h.d__law_same ["found", "due"] [] := h.f__law_same.binds fun _ _ _ _ _ _ us hl => match us, hl with | [_, _], _ => rfl
theorem okG__law_same : ∀ n : Nat, FnOk P w K mg base (L2.CX P w) (1 + n + 1) h.a__law_same h.d__law_same ["found", "due"] (spD C K (G__law_same n))
 | 0 => fn_stuck
 | n + 1 => fn_def (N := ["found", "due", "is_alike", "one", "other"]) h.f__law_same sc__law_same fun cdv A outer s H E hr => by
  have ih := okG__law_same n
  have nd := sc__law_same.nd
  have tk := tk_cx (P := P) (w := w) (K := K) (mg := mg) (base := base) (N := ["found", "due", "is_alike", "one", "other"]) (q := "_law_same") (sc := defScope st__law_same) (f := h.a__law_same) (cd := cdv) (A := A) (outer := outer) (s := s) (H := H) (E := E)
  have pso := own_cx (P := P) (w := w) (K := K) (mg := mg) (base := base) (N := ["found", "due", "is_alike", "one", "other"]) (q := "_law_same") (sc := defScope st__law_same) (f := h.a__law_same) (cd := cdv) (A := A) (outer := outer) (s := s) (H := H) (E := E)
  have fl := flatE (E := E)
  exact (dss_cons (ds_if (dt_tr (de_is1 rfl h.n_isinstance (de_var (i := 1) rfl (.inl rfl)) rfl h.n_dict (by decide +kernel) (by decide) (by decide) (kit7 rfl rfl rfl rfl rfl rfl rfl))) (dss_one (ds_ret (de_andT (de_is1 rfl h.n_isinstance (de_var (i := 0) rfl (.inl rfl)) rfl h.n_dict (by decide +kernel) (by decide) (by decide) (kit7 rfl rfl rfl rfl rfl rfl rfl)) (de_one (de_call ih (hr.mono (by omega)) rfl h.g__law_same h.f__law_same.kp (bi__law_same h) tk (da_cons (NE.fz (ne_callTy (c_list rfl) rfl h.n_list (by decide +kernel) (da_cons de_stuck da_nil))) (da_cons (NE.fz (ne_callTy (c_list rfl) rfl h.n_list (by decide +kernel) (da_cons de_stuck da_nil))) da_nil)))))))
 dss_nil)
 (dss_cons (ds_if (dt_tr (de_isiT (tb := tbOf ["list", "tuple"]) (cb := fun _ => none) (cvs := [.ty "list", .ty "tuple"]) (us := [.type "list", .type "tuple"]) rfl h.n_isinstance (de_var (i := 1) rfl (.inl rfl)) (.cons (.ty _) (.cons (.ty _) .nil)) (by decide) (kit7 rfl rfl rfl rfl rfl rfl rfl) (fun c b z => nomatch z) (hcs := (pa_ty (pa_ty pa_ty0 rfl h.n_tuple (by decide +kernel) (by decide) (by decide)) rfl h.n_list (by decide +kernel) (by decide) (by decide))))) (dss_cons (ds_if (DW.dt (dw_or (dt_cmp (o_ne hr.b64) (de_is1 rfl h.n_isinstance (de_var (i := 0) rfl (.inl rfl)) rfl h.n_list (by decide +kernel) (by decide) (by decide) (kit7 rfl rfl rfl rfl rfl rfl rfl)) (de_is1 rfl h.n_isinstance (de_var (i := 1) rfl (.inl rfl)) rfl h.n_list (by decide +kernel) (by decide) (by decide) (kit7 rfl rfl rfl rfl rfl rfl rfl)) rfl) (dw_or1 (dt_cmp (o_ne hr.b64) (de_is1 rfl h.n_isinstance (de_var (i := 0) rfl (.inl rfl)) rfl h.n_tuple (by decide +kernel) (by decide) (by decide) (kit7 rfl rfl rfl rfl rfl rfl rfl)) (de_is1 rfl h.n_isinstance (de_var (i := 1) rfl (.inl rfl)) rfl h.n_tuple (by decide +kernel) (by decide) (by decide) (kit7 rfl rfl rfl rfl rfl rfl rfl)) rfl)))) (dss_one (ds_ret de_bl))
 dss_nil)
 (dss_one (ds_ret (de_andT (de_cmp (o_eq hr.b64) (de_callB c_len rfl h.n_len (by decide +kernel) (da_cons (de_var (i := 0) rfl (.inl rfl)) da_nil)) (de_callB c_len rfl h.n_len (by decide +kernel) (da_cons (de_var (i := 1) rfl (.inl rfl)) da_nil)) rfl) (de_one (de_callB (c_all rfl) rfl h.n_all (by decide +kernel) (da_cons (NE.fz (ne_lc (own := [("one", 3), ("other", 4)]) (c := (.many [3, 4])) rfl nd (di_zip rfl h.n_zip (da_cons (de_var (i := 0) rfl (.inl rfl)) (da_cons (de_var (i := 1) rfl (.inl rfl)) da_nil))) (blkOk_by (by kernel_rfl)) (by decide) (fun s H A cl fp => ⟨pg_tup rfl (pgs_cons (pg_name nd rfl (.inl rfl)) (pgs_cons (pg_name nd rfl (.inl rfl)) pgs_nil)), pg_lst rfl (pgs_cons (pg_name nd rfl (.inl rfl)) (pgs_cons (pg_name nd rfl (.inl rfl)) pgs_nil))⟩) (fun s H A cl fp => dts_nil) (fun s H A cl fp => (de_call ih (hr.mono (by omega)) rfl h.g__law_same h.f__law_same.kp (bi__law_same h) takes0 (da_cons (de_var (i := 3) rfl (.inl rfl)) (da_cons (de_var (i := 4) rfl (.inl rfl)) da_nil)))))) da_nil)))))))
 dss_nil)
 (dss_cons (ds_set nd rfl (.inl rfl) (de_andT (de_cmp (o_eq hr.b64) (de_is1 rfl h.n_isinstance (de_var (i := 0) rfl (.inl rfl)) rfl h.n_bool (by decide +kernel) (by decide) (by decide) (kit7 rfl rfl rfl rfl rfl rfl rfl)) (de_is1 rfl h.n_isinstance (de_var (i := 1) rfl (.inl rfl)) rfl h.n_bool (by decide +kernel) (by decide) (by decide) (kit7 rfl rfl rfl rfl rfl rfl rfl)) rfl) (de_one (de_cmp (o_eq hr.b64) (de_is1 rfl h.n_isinstance (de_var (i := 0) rfl (.inl rfl)) rfl h.n_int (by decide +kernel) (by decide) (by decide) (kit7 rfl rfl rfl rfl rfl rfl rfl)) (de_is1 rfl h.n_isinstance (de_var (i := 1) rfl (.inl rfl)) rfl h.n_int (by decide +kernel) (by decide) (by decide) (kit7 rfl rfl rfl rfl rfl rfl rfl)) rfl))))
 (dss_cons (ds_if (DW.dt (dw_or (dt_tr (de_isiT (tb := tbOf ["dict", "list", "tuple"]) (cb := fun _ => none) (cvs := [.ty "dict", .ty "list", .ty "tuple"]) (us := [.type "dict", .type "list", .type "tuple"]) rfl h.n_isinstance (de_var (i := 0) rfl (.inl rfl)) (.cons (.ty _) (.cons (.ty _) (.cons (.ty _) .nil))) (by decide) (kit7 rfl rfl rfl rfl rfl rfl rfl) (fun c b z => nomatch z) (hcs := (pa_ty (pa_ty (pa_ty pa_ty0 rfl h.n_tuple (by decide +kernel) (by decide) (by decide)) rfl h.n_list (by decide +kernel) (by decide) (by decide)) rfl h.n_dict (by decide +kernel) (by decide) (by decide))))) (dw_or (dt_not (dt_tr (de_var (i := 2) rfl (.inl rfl)))) (dw_or1 (dt_cmp (o_ne hr.b64) (de_is1 rfl h.n_isinstance (de_var (i := 0) rfl (.inl rfl)) rfl h.n_str (by decide +kernel) (by decide) (by decide) (kit7 rfl rfl rfl rfl rfl rfl rfl)) (de_is1 rfl h.n_isinstance (de_var (i := 1) rfl (.inl rfl)) rfl h.n_str (by decide +kernel) (by decide) (by decide) (kit7 rfl rfl rfl rfl rfl rfl rfl)) rfl))))) (dss_one (ds_ret de_bl))
 dss_nil)
 (dss_one (ds_ret (de_if (dt_cmp o_isN (de_var (i := 1) rfl (.inl rfl)) de_non rfl) (de_cmp o_isN (de_var (i := 0) rfl (.inl rfl)) de_non rfl) (de_cmp (o_eq hr.b64) (de_var (i := 0) rfl (.inl rfl)) (de_var (i := 1) rfl (.inl rfl)) rfl))))))))
theorem ok__law_same : FnOk P w K mg base (L2.CX P w) 14 h.a__law_same h.d__law_same ["found", "due"] (spD C K F__law_same) := okG__law_same h 12
theorem sc_check_names : FnScope ["names"] ["names"] (defScope st_check_names) := ⟨rfl, rfl, rfl, by decide +kernel, rfl, by decide +kernel, by decide +kernel⟩
theorem bi_check_names : Binds K h.d_check_names ["names"] [] := h.f_check_names.binds fun _ _ _ _ _ _ us hl => match us, hl with | [_], _ => rfl
theorem ok_check_names : FnOk P w K mg base (L2.CX P w) 4 h.a_check_names h.d_check_names ["names"] (spD C K F_check_names) := fn_def (N := ["names"]) h.f_check_names sc_check_names fun cdv A outer s H E hr => by
  have nd := sc_check_names.nd
  have tk := tk_cx (P := P) (w := w) (K := K) (mg := mg) (base := base) (N := ["names"]) (q := "check_names") (sc := defScope st_check_names) (f := h.a_check_names) (cd := cdv) (A := A) (outer := outer) (s := s) (H := H) (E := E)
  have pso := own_cx (P := P) (w := w) (K := K) (mg := mg) (base := base) (N := ["names"]) (q := "check_names") (sc := defScope st_check_names) (f := h.a_check_names) (cd := cdv) (A := A) (outer := outer) (s := s) (H := H) (E := E)
  have fl := flatE (E := E)
  exact (dss_one (ds_if (dt_not (dt_tr (de_call (ok_are_names h) (hr.mono (by decide)) rfl h.g_are_names h.f_are_names.kp (bi_are_names h) tk (da_cons (de_var (i := 0) rfl (.inl rfl)) da_nil)))) (dss_one (ds_raise (c := 0) rfl tk h.e_BadNames.ox h.e_BadNames.init h.e_BadNames.ti h.e_BadNames.cf (h.e_BadNames.ok base 0) (hr.mono (by decide)) h.e_BadNames.b rfl h.e_BadNames.m (de_var (i := 0) rfl (.inl rfl))))
 dss_nil))
theorem sc_mask_of : FnScope ["names", "lot", "told", "index", "one"] ["names", "lot"] (defScope st_mask_of) := ⟨rfl, rfl, rfl, by decide +kernel, rfl, by decide +kernel, by decide +kernel⟩
theorem bi_mask_of : Binds K h.d_mask_of ["names", "lot"] [] := h.f_mask_of.binds fun _ _ _ _ _ _ us hl => match us, hl with | [_, _], _ => rfl
theorem ok_mask_of : FnOk P w K mg base (L2.CX P w) 2 h.a_mask_of h.d_mask_of ["names", "lot"] (spD C K F_mask_of) := fn_def (N := ["names", "lot", "told", "index", "one"]) h.f_mask_of sc_mask_of fun cdv A outer s H E hr => by
  have nd := sc_mask_of.nd
  have tk := tk_cx (P := P) (w := w) (K := K) (mg := mg) (base := base) (N := ["names", "lot", "told", "index", "one"]) (q := "mask_of") (sc := defScope st_mask_of) (f := h.a_mask_of) (cd := cdv) (A := A) (outer := outer) (s := s) (H := H) (E := E)
  have pso := own_cx (P := P) (w := w) (K := K) (mg := mg) (base := base) (N := ["names", "lot", "told", "index", "one"]) (q := "mask_of") (sc := defScope st_mask_of) (f := h.a_mask_of) (cd := cdv) (A := A) (outer := outer) (s := s) (H := H) (E := E)
  have fl := flatE (E := E)
  exact (dss_cons (ds_set nd rfl (.inl rfl) de_int)
 (dss_cons (ds_for pso rfl (di_enum rfl h.n_enumerate (da_cons (de_var (i := 0) rfl (.inl rfl)) da_nil)) (dg_unp rfl (dgs_cons (dg_name nd rfl (.inl rfl)) (dgs_cons (dg_name nd rfl (.inl rfl)) dgs_nil))) (dss_one (ds_if (dt_cmp (o_in hr.b65) (de_var (i := 4) rfl (.inl rfl)) (de_var (i := 1) rfl (.inl rfl)) rfl) (dss_one (ds_aug nd rfl (.inl rfl) (de_bin o_shl de_int (de_var (i := 3) rfl (.inl rfl))) ip_addD))
 dss_nil)))
 (dss_one (ds_ret (de_var (i := 2) rfl (.inl rfl))))))
theorem sc_Family___init__ : FnScope ["self", "names", "lots", "own", "lot"] ["self", "names", "lots"] (defScope st_Family___init__) := ⟨rfl, rfl, rfl, by decide +kernel, rfl, by decide +kernel, by decide +kernel⟩
theorem bi_Family___init__ : Binds K h.d_Family___init__ ["self", "names", "lots"] [] := h.f_Family___init__.binds fun _ _ _ _ _ _ us hl => match us, hl with | [_, _, _], _ => rfl
theorem ok_Family___init__ : FnOk P w K mg base (L2.CX P w) 5 h.a_Family___init__ h.d_Family___init__ ["self", "names", "lots"] (spD C K F_Family___init__) := fn_def (N := ["self", "names", "lots", "own", "lot"]) h.f_Family___init__ sc_Family___init__ fun cdv A outer s H E hr => by
  have nd := sc_Family___init__.nd
  have tk := tk_cx (P := P) (w := w) (K := K) (mg := mg) (base := base) (N := ["self", "names", "lots", "own", "lot"]) (q := "Family.__init__") (sc := defScope st_Family___init__) (f := h.a_Family___init__) (cd := cdv) (A := A) (outer := outer) (s := s) (H := H) (E := E)
  have pso := own_cx (P := P) (w := w) (K := K) (mg := mg) (base := base) (N := ["self", "names", "lots", "own", "lot"]) (q := "Family.__init__") (sc := defScope st_Family___init__) (f := h.a_Family___init__) (cd := cdv) (A := A) (outer := outer) (s := s) (H := H) (E := E)
  have fl := flatE (E := E)
  exact (dss_cons (ds_expr (de_call (ok_check_names h) (hr.mono (by decide)) rfl h.g_check_names h.f_check_names.kp (bi_check_names h) tk (da_cons (de_var (i := 1) rfl (.inl rfl)) da_nil)))
 (dss_cons (ds_set nd rfl (.inr rfl) (NE.fz (ne_callB (c_sorted hr.b64) rfl h.n_sorted (by decide +kernel) (da_cons (de_var (i := 1) rfl (.inl rfl)) da_nil))))
 (dss_cons (ds_if (dt_not (dt_tr (de_call (ok_are_right_lots h) (hr.mono (by decide)) rfl h.g_are_right_lots h.f_are_right_lots.kp (bi_are_right_lots h) tk (da_cons (de_var (i := 3) rfl (.inr (.inl rfl))) (da_cons (de_var (i := 2) rfl (.inl rfl)) da_nil))))) (dss_one (ds_raise (c := 1) rfl tk h.e_BadLots.ox h.e_BadLots.init h.e_BadLots.ti h.e_BadLots.cf (h.e_BadLots.ok base 0) (hr.mono (by decide)) h.e_BadLots.b rfl h.e_BadLots.m (de_var (i := 2) rfl (.inl rfl))))
 dss_nil)
 (dss_cons (ds_fld (h.i_Family.fx (by decide) rfl) h.lf (de_var (i := 0) rfl (.inl rfl)) (de_var (i := 3) rfl (.inr (.inl rfl))))
 (dss_one (ds_fld (h.i_Family.fx (by decide) rfl) h.lf (de_var (i := 0) rfl (.inl rfl)) (NE.fz (ne_callB (c_sorted hr.b64) rfl h.n_sorted (by decide +kernel) (da_cons (NE.fz (ne_lc (own := [("lot", 4)]) (c := (.one 4)) rfl nd (di_seq (de_var (i := 2) rfl (.inl rfl))) (blkOk_by (by kernel_rfl)) (by decide) (fun s H A cl fp => pg_name nd rfl (.inl rfl)) (fun s H A cl fp => dts_nil) (fun s H A cl fp => (de_call (ok_mask_of h) (hr.mono (by decide)) rfl h.g_mask_of h.f_mask_of.kp (bi_mask_of h) takes0 (da_cons (de_var (i := 3) rfl (.inr (.inl rfl))) (da_cons (de_var (i := 4) rfl (.inl rfl)) da_nil)))))) da_nil)))))))))
theorem sc__law_very : FnScope ["kept", "thing", "found"] ["kept", "thing"] (defScope st__law_very) := ⟨rfl, rfl, rfl, by decide +kernel, rfl, by decide +kernel, by decide +kernel⟩
theorem bi__law_very : Binds K h.d__law_very ["kept", "thing"] [] := h.f__law_very.binds fun _ _ _ _ _ _ us hl => match us, hl with | [_, _], _ => rfl
theorem ok__law_very : FnOk P w K mg base (L2.CX P w) 15 h.a__law_very h.d__law_very ["kept", "thing"] (spD C K F__law_very) := fn_def (N := ["kept", "thing", "found"]) h.f__law_very sc__law_very fun cdv A outer s H E hr => by
  have nd := sc__law_very.nd
  have tk := tk_cx (P := P) (w := w) (K := K) (mg := mg) (base := base) (N := ["kept", "thing", "found"]) (q := "_law_very") (sc := defScope st__law_very) (f := h.a__law_very) (cd := cdv) (A := A) (outer := outer) (s := s) (H := H) (E := E)
  have pso := own_cx (P := P) (w := w) (K := K) (mg := mg) (base := base) (N := ["kept", "thing", "found"]) (q := "_law_very") (sc := defScope st__law_very) (f := h.a__law_very) (cd := cdv) (A := A) (outer := outer) (s := s) (H := H) (E := E)
  have fl := flatE (E := E)
  exact (dss_cons (ds_if (dt_tr (de_is1 rfl h.n_isinstance (de_var (i := 1) rfl (.inl rfl)) rfl h.n_list (by decide +kernel) (by decide) (by decide) (kit7 rfl rfl rfl rfl rfl rfl rfl))) (dss_veryL (pss_cons (ps_expr (pe_bm PySem.F.plainAttrs_list PySem.F.slot_list_append rfl mt_append (pv 1) (pa_cons pe_str pa_nil))) (pss_cons (ps_set (i := 2) nd rfl (.inl rfl) (pe_and (pe_callB call_isi rfl h.n_isinstance (by decide +kernel) (pa_cons (pv 0) (pa_cons (pe_bltn rfl h.n_list (by decide +kernel) rfl) pa_nil))) (pe_and (pe_cmpR op_eq (pe_callB call_len rfl h.n_len (by decide +kernel) (pa_cons (pv 0) pa_nil)) (pe_callB call_len rfl h.n_len (by decide +kernel) (pa_cons (pv 1) pa_nil)) rfl) (pe_one (pe_cmpR op_eq (pe_ix ix_seq (pv 0) (pe_un un_neg pe_int) (by intro _ _; with_unfolding_all rfl)) pe_str rfl))))) (pss_cons (ps_expr (pe_bm0 PySem.F.plainAttrs_list PySem.F.slot_list_pop rfl mt_pop (pv 1))) (pss_one (ps_ret (pv 2)))))))
 dss_nil)
 (dss_cons (ds_if (dt_tr (de_is1 rfl h.n_isinstance (de_var (i := 1) rfl (.inl rfl)) rfl h.n_dict (by decide +kernel) (by decide) (by decide) (kit7 rfl rfl rfl rfl rfl rfl rfl))) (dss_veryD (ps_asg pe_int (pg_sub (pv 1) pe_str (set_dict hr.b1) (by intro _; rfl))) (ps_set (i := 2) nd rfl (.inl rfl) (pe_and (pe_callB call_isi rfl h.n_isinstance (by decide +kernel) (pa_cons (pv 0) (pa_cons (pe_bltn rfl h.n_dict (by decide +kernel) rfl) pa_nil))) (pe_and (pe_cmpR op_eq (pe_callB call_lenD rfl h.n_len (by decide +kernel) (pa_cons (pv 0) pa_nil)) (pe_callB call_lenD rfl h.n_len (by decide +kernel) (pa_cons (pv 1) pa_nil)) rfl) (pe_one (pe_cmpR op_eq (pe_dget1 hr.b1 (pv 0) pe_str ⟨rfl, rfl, rfl, rfl⟩) pe_int rfl))))) (ps_expr (pe_dpop1 (pv 1) pe_str ⟨rfl, rfl, rfl, rfl⟩)) (ps_ret (pv 2)))
 dss_nil)
 (dss_cons (ds_if (DW.dt (dw_or (dt_tr (de_isiT (tb := tbOf ["tuple", "str", "bool", "int"]) (cb := fun _ => none) (cvs := [.ty "tuple", .ty "str", .ty "bool", .ty "int"]) (us := [.type "tuple", .type "str", .type "bool", .type "int"]) rfl h.n_isinstance (de_var (i := 1) rfl (.inl rfl)) (.cons (.ty _) (.cons (.ty _) (.cons (.ty _) (.cons (.ty _) .nil)))) (by decide) (kit7 rfl rfl rfl rfl rfl rfl rfl) (fun c b z => nomatch z) (hcs := (pa_ty (pa_ty (pa_ty (pa_ty pa_ty0 rfl h.n_int (by decide +kernel) (by decide) (by decide)) rfl h.n_bool (by decide +kernel) (by decide) (by decide)) rfl h.n_str (by decide +kernel) (by decide) (by decide)) rfl h.n_tuple (by decide +kernel) (by decide) (by decide))))) (dw_or1 (dt_cmp o_isN (de_var (i := 1) rfl (.inl rfl)) de_non rfl)))) (dss_one (ds_ret (de_call (ok__law_same h) (hr.mono (by decide)) rfl h.g__law_same h.f__law_same.kp (bi__law_same h) tk (da_cons (de_var (i := 0) rfl (.inl rfl)) (da_cons (de_var (i := 1) rfl (.inl rfl)) da_nil)))))
 dss_nil)
 (dss_one (ds_ret (de_cmp (o_eq hr.b64) (de_var (i := 0) rfl (.inl rfl)) (de_var (i := 1) rfl (.inl rfl)) rfl))))))
theorem sc_law : FnScope ["script", "turn", "spring", "names", "lots", "at", "place", "found", "name", "thing", "due", "call", "word", "kept", "one", "lot", "some", "size", "k"] ["script"] (defScope st_law) := ⟨rfl, rfl, rfl, by decide +kernel, rfl, by decide +kernel, by decide +kernel⟩
theorem bi_law : Binds K h.d_law ["script"] [] := h.f_law.binds fun _ _ _ _ _ _ us hl => match us, hl with | [_], _ => rfl
theorem lb_law_0 {a c : Addr} {A0 : Around} {outer0 : List PySem.Env} {s0 : Shared} {H0 : L2.Hp} {E0 : XK} (r : LamR) (A : Around) (outer : List PySem.Env) (s : Shared) (H : L2.Hp) (E : XK) (f c' : Addr) (h : Hd (C.wl r) P w K mg) (hr : Room 16 (A.deeper (LamX.lamEnv (cxOf (L2.CX P w) P w K mg base ["script", "turn", "spring", "names", "lots", "at", "place", "found", "name", "thing", "due", "call", "word", "kept", "one", "lot", "some", "size", "k"] "law" (defScope st_law) a (.ref c) A0 outer0 s0 H0 E0) L_law_0.scope s.heap.objs.size f c'))) : DE (C.wl r) (LamX.lamCx (cxOf (L2.CX P w) P w K mg base ["script", "turn", "spring", "names", "lots", "at", "place", "found", "name", "thing", "due", "call", "word", "kept", "one", "lot", "some", "size", "k"] "law" (defScope st_law) a (.ref c) A0 outer0 s0 H0 E0) A outer s H E L_law_0.scope f c') (fun c d _ H => E c d H) L_law_0.body fb_law_0 := by
  have tk := tk_lam (X := (cxOf (L2.CX P w) P w K mg base ["script", "turn", "spring", "names", "lots", "at", "place", "found", "name", "thing", "due", "call", "word", "kept", "one", "lot", "some", "size", "k"] "law" (defScope st_law) a (.ref c) A0 outer0 s0 H0 E0)) (A := A) (outer := outer) (s := s) (H := H) (E := E) (sc := L_law_0.scope) (f := f) (c := c')
  have fl := flatE (E := E)
  exact (de_make (c := 2) (nf := 2) (congrArg List.length h.i_Family.cf) (mk_eq h.j_Family h.i_Family.mkr) (ok_Family___init__ h) (hr.mono (by decide)) rfl h.i_Family.m (bi_Family___init__ h) tk fl (da_cons (de_var (i := 9) rfl (.inr (.inr rfl))) (da_cons de_non da_nil)))
theorem ls_law_0 {a c : Addr} {A0 : Around} {outer0 : List PySem.Env} {s0 : Shared} {H0 : L2.Hp} {E0 : XK} : LamS (cxOf (L2.CX P w) P w K mg base ["script", "turn", "spring", "names", "lots", "at", "place", "found", "name", "thing", "due", "call", "word", "kept", "one", "lot", "some", "size", "k"] "law" (defScope st_law) a (.ref c) A0 outer0 s0 H0 E0) L_law_0 [14] "one" := lamS_by (by kernel_rfl) (fun z => nomatch z) (fun i z => ⟨rfl, fun q cl T pm cdv ct => ⟨_, rfl, fun v => rfl⟩⟩) (.inr ⟨_, rfl⟩)
theorem lb_law_1 {a c : Addr} {A0 : Around} {outer0 : List PySem.Env} {s0 : Shared} {H0 : L2.Hp} {E0 : XK} (r : LamR) (A : Around) (outer : List PySem.Env) (s : Shared) (H : L2.Hp) (E : XK) (f c' : Addr) (h : Hd (C.wl r) P w K mg) (hr : Room 16 (A.deeper (LamX.lamEnv (cxOf (L2.CX P w) P w K mg base ["script", "turn", "spring", "names", "lots", "at", "place", "found", "name", "thing", "due", "call", "word", "kept", "one", "lot", "some", "size", "k"] "law" (defScope st_law) a (.ref c) A0 outer0 s0 H0 E0) L_law_1.scope s.heap.objs.size f c'))) : DE (C.wl r) (LamX.lamCx (cxOf (L2.CX P w) P w K mg base ["script", "turn", "spring", "names", "lots", "at", "place", "found", "name", "thing", "due", "call", "word", "kept", "one", "lot", "some", "size", "k"] "law" (defScope st_law) a (.ref c) A0 outer0 s0 H0 E0) A outer s H E L_law_1.scope f c') (fun c d _ H => E c d H) L_law_1.body fb_law_1 := by
  have tk := tk_lam (X := (cxOf (L2.CX P w) P w K mg base ["script", "turn", "spring", "names", "lots", "at", "place", "found", "name", "thing", "due", "call", "word", "kept", "one", "lot", "some", "size", "k"] "law" (defScope st_law) a (.ref c) A0 outer0 s0 H0 E0)) (A := A) (outer := outer) (s := s) (H := H) (E := E) (sc := L_law_1.scope) (f := f) (c := c')
  have fl := flatE (E := E)
  exact (de_call (ok_are_lots h) (hr.mono (by decide)) rfl h.g_are_lots h.f_are_lots.kp (bi_are_lots h) tk (da_cons (de_var (i := 9) rfl (.inr (.inr rfl))) (da_cons de_non da_nil)))
theorem ls_law_1 {a c : Addr} {A0 : Around} {outer0 : List PySem.Env} {s0 : Shared} {H0 : L2.Hp} {E0 : XK} : LamS (cxOf (L2.CX P w) P w K mg base ["script", "turn", "spring", "names", "lots", "at", "place", "found", "name", "thing", "due", "call", "word", "kept", "one", "lot", "some", "size", "k"] "law" (defScope st_law) a (.ref c) A0 outer0 s0 H0 E0) L_law_1 [] "two" := lamS_by (by kernel_rfl) (fun z => nomatch z) (fun i z => ⟨rfl, fun q cl T pm cdv ct => ⟨_, rfl, fun v => rfl⟩⟩) (.inr ⟨_, rfl⟩)
theorem lb_law_2 {a c : Addr} {A0 : Around} {outer0 : List PySem.Env} {s0 : Shared} {H0 : L2.Hp} {E0 : XK} (r : LamR) (A : Around) (outer : List PySem.Env) (s : Shared) (H : L2.Hp) (E : XK) (f c' : Addr) (h : Hd (C.wl r) P w K mg) (hr : Room 16 (A.deeper (LamX.lamEnv (cxOf (L2.CX P w) P w K mg base ["script", "turn", "spring", "names", "lots", "at", "place", "found", "name", "thing", "due", "call", "word", "kept", "one", "lot", "some", "size", "k"] "law" (defScope st_law) a (.ref c) A0 outer0 s0 H0 E0) L_law_2.scope s.heap.objs.size f c'))) : DE (C.wl r) (LamX.lamCx (cxOf (L2.CX P w) P w K mg base ["script", "turn", "spring", "names", "lots", "at", "place", "found", "name", "thing", "due", "call", "word", "kept", "one", "lot", "some", "size", "k"] "law" (defScope st_law) a (.ref c) A0 outer0 s0 H0 E0) A outer s H E L_law_2.scope f c') (fun c d _ H => E c d H) L_law_2.body fb_law_2 := by
  have tk := tk_lam (X := (cxOf (L2.CX P w) P w K mg base ["script", "turn", "spring", "names", "lots", "at", "place", "found", "name", "thing", "due", "call", "word", "kept", "one", "lot", "some", "size", "k"] "law" (defScope st_law) a (.ref c) A0 outer0 s0 H0 E0)) (A := A) (outer := outer) (s := s) (H := H) (E := E) (sc := L_law_2.scope) (f := f) (c := c')
  have fl := flatE (E := E)
  exact (de_make (c := 2) (nf := 2) (congrArg List.length h.i_Family.cf) (mk_eq h.j_Family h.i_Family.mkr) (ok_Family___init__ h) (hr.mono (by decide)) rfl h.i_Family.m (bi_Family___init__ h) tk fl (da_cons (NE.fz (ne_callTy (c_list rfl) rfl h.n_list (by decide +kernel) (da_cons (de_var (i := 3) rfl (.inr (.inr rfl))) da_nil))) (da_cons (de_var (i := 9) rfl (.inr (.inr rfl))) da_nil)))
theorem ls_law_2 {a c : Addr} {A0 : Around} {outer0 : List PySem.Env} {s0 : Shared} {H0 : L2.Hp} {E0 : XK} : LamS (cxOf (L2.CX P w) P w K mg base ["script", "turn", "spring", "names", "lots", "at", "place", "found", "name", "thing", "due", "call", "word", "kept", "one", "lot", "some", "size", "k"] "law" (defScope st_law) a (.ref c) A0 outer0 s0 H0 E0) L_law_2 [] "" := lamS_by (by kernel_rfl) (fun _ _ _ _ _ _ => rfl) (fun i z => nomatch z) (.inl rfl)
theorem lb_law_3 {a c : Addr} {A0 : Around} {outer0 : List PySem.Env} {s0 : Shared} {H0 : L2.Hp} {E0 : XK} (r : LamR) (A : Around) (outer : List PySem.Env) (s : Shared) (H : L2.Hp) (E : XK) (f c' : Addr) (h : Hd (C.wl r) P w K mg) (hr : Room 16 (A.deeper (LamX.lamEnv (cxOf (L2.CX P w) P w K mg base ["script", "turn", "spring", "names", "lots", "at", "place", "found", "name", "thing", "due", "call", "word", "kept", "one", "lot", "some", "size", "k"] "law" (defScope st_law) a (.ref c) A0 outer0 s0 H0 E0) L_law_3.scope s.heap.objs.size f c'))) : DE (C.wl r) (LamX.lamCx (cxOf (L2.CX P w) P w K mg base ["script", "turn", "spring", "names", "lots", "at", "place", "found", "name", "thing", "due", "call", "word", "kept", "one", "lot", "some", "size", "k"] "law" (defScope st_law) a (.ref c) A0 outer0 s0 H0 E0) A outer s H E L_law_3.scope f c') (fun c d _ H => E c d H) L_law_3.body fb_law_3 := by
  have tk := tk_lam (X := (cxOf (L2.CX P w) P w K mg base ["script", "turn", "spring", "names", "lots", "at", "place", "found", "name", "thing", "due", "call", "word", "kept", "one", "lot", "some", "size", "k"] "law" (defScope st_law) a (.ref c) A0 outer0 s0 H0 E0)) (A := A) (outer := outer) (s := s) (H := H) (E := E) (sc := L_law_3.scope) (f := f) (c := c')
  have fl := flatE (E := E)
  exact (de_makeK0 (c := 2) (nf := 2) (ks := ["lots", "names"]) (perm := [1, 0]) (congrArg List.length h.i_Family.cf) (mk_eq h.j_Family h.i_Family.mkr) (ok_Family___init__ h) (hr.mono (by decide)) rfl h.i_Family.m (kbn_of (h.f_Family___init__) (n := 1) (ks := ["lots", "names"]) fun _ _ _ _ _ _ us ws l1 l2 => match us, ws, l1, l2 with | [_], [_, _], _, _ => rfl) tk fl (dk_cons (de_var (i := 9) rfl (.inr (.inr rfl))) (dk_cons (NE.fz (ne_callTy (c_list rfl) rfl h.n_list (by decide +kernel) (da_cons (de_var (i := 3) rfl (.inr (.inr rfl))) da_nil))) dk_nil)))
theorem ls_law_3 {a c : Addr} {A0 : Around} {outer0 : List PySem.Env} {s0 : Shared} {H0 : L2.Hp} {E0 : XK} : LamS (cxOf (L2.CX P w) P w K mg base ["script", "turn", "spring", "names", "lots", "at", "place", "found", "name", "thing", "due", "call", "word", "kept", "one", "lot", "some", "size", "k"] "law" (defScope st_law) a (.ref c) A0 outer0 s0 H0 E0) L_law_3 [] "" := lamS_by (by kernel_rfl) (fun _ _ _ _ _ _ => rfl) (fun i z => nomatch z) (.inl rfl)
theorem lo_law {A0 : Around} {outer0 : List PySem.Env} {s0 : Shared} {H0 : L2.Hp} {E0 : XK} : LamsOk C (cxOf (L2.CX P w) P w K mg base ["script", "turn", "spring", "names", "lots", "at", "place", "found", "name", "thing", "due", "call", "word", "kept", "one", "lot", "some", "size", "k"] "law" (defScope st_law) h.a_law (.ref h.c_law) A0 outer0 s0 H0 E0) 16 tab_law fbs_law := ⟨fun i L hi => by
  match i, hi with
  | 0, hi =>
    obtain rfl : L_law_0 = L := Option.some.inj hi
    exact ⟨[14], "one", fb_law_0, ls_law_0, rfl, fun A outer s H E f c' hr => lb_law_0 _ A outer s H E f c' (h.wl _) hr⟩
  | 1, hi =>
    obtain rfl : L_law_1 = L := Option.some.inj hi
    exact ⟨[], "two", fb_law_1, ls_law_1, rfl, fun A outer s H E f c' hr => lb_law_1 _ A outer s H E f c' (h.wl _) hr⟩
  | 2, hi =>
    obtain rfl : L_law_2 = L := Option.some.inj hi
    exact ⟨[], "", fb_law_2, ls_law_2, rfl, fun A outer s H E f c' hr => lb_law_2 _ A outer s H E f c' (h.wl _) hr⟩
  | 3, hi =>
    obtain rfl : L_law_3 = L := Option.some.inj hi
    exact ⟨[], "", fb_law_3, ls_law_3, rfl, fun A outer s H E f c' hr => lb_law_3 _ A outer s H E f c' (h.wl _) hr⟩
  | n + 4, hi => exact nomatch hi⟩
theorem ok_law (tb : LamX.TabB base mg h.c_law h.P_law) : FnOk P w K mg base (L2.CX P w) 21 h.a_law h.d_law ["script"] (spD C K F_law) := fn_defL (N := ["script", "turn", "spring", "names", "lots", "at", "place", "found", "name", "thing", "due", "call", "word", "kept", "one", "lot", "some", "size", "k"]) h.fL_law sc_law fun A outer s H E hr => by
  have nd := sc_law.nd
  have tk := tk_cx (P := P) (w := w) (K := K) (mg := mg) (base := base) (N := ["script", "turn", "spring", "names", "lots", "at", "place", "found", "name", "thing", "due", "call", "word", "kept", "one", "lot", "some", "size", "k"]) (q := "law") (sc := defScope st_law) (f := h.a_law) (cd := .ref h.c_law) (A := A) (outer := outer) (s := s) (H := H) (E := E)
  have pso := own_cx (P := P) (w := w) (K := K) (mg := mg) (base := base) (N := ["script", "turn", "spring", "names", "lots", "at", "place", "found", "name", "thing", "due", "call", "word", "kept", "one", "lot", "some", "size", "k"]) (q := "law") (sc := defScope st_law) (f := h.a_law) (cd := .ref h.c_law) (A := A) (outer := outer) (s := s) (H := H) (E := E)
  have fl := flatE (E := E)
  have lo := lo_law (base := base) h (A0 := A) (outer0 := outer) (s0 := s) (H0 := H) (E0 := E)
  refine ⟨lrOf (cxOf (L2.CX P w) P w K mg base ["script", "turn", "spring", "names", "lots", "at", "place", "found", "name", "thing", "due", "call", "word", "kept", "one", "lot", "some", "size", "k"] "law" (defScope st_law) h.a_law (.ref h.c_law) A outer s H E) tab_law, ?_⟩
  have hw := h.wl (lrOf (cxOf (L2.CX P w) P w K mg base ["script", "turn", "spring", "names", "lots", "at", "place", "found", "name", "thing", "due", "call", "word", "kept", "one", "lot", "some", "size", "k"] "law" (defScope st_law) h.a_law (.ref h.c_law) A outer s H E) tab_law)
  exact (dss_cons (ds_for pso rfl (di_range1 rfl hw.n_range (da_cons de_int da_nil)) (dg_name nd rfl (.inl rfl)) (dss_cons (ds_set nd rfl (.inl rfl) (de_call (ok__law_spring hw) (hr.mono (by decide)) rfl hw.g__law_spring hw.f__law_spring.kp (bi__law_spring hw) tk (da_cons (de_var (i := 0) rfl (.inl rfl)) (da_cons (de_var (i := 1) rfl (.inl rfl)) da_nil))))
 (dss_cons (ds_asg (de_call (ok__law_b_drawn hw) (hr.mono (by decide)) rfl hw.g__law_b_drawn hw.f__law_b_drawn.kp (bi__law_b_drawn hw) tk (da_cons (de_var (i := 2) rfl (.inl rfl)) (da_cons (de_call (ok__law_pick hw) (hr.mono (by decide)) rfl hw.g__law_pick hw.f__law_pick.kp (bi__law_pick hw) tk (da_cons (de_var (i := 2) rfl (.inl rfl)) (da_cons (NE.fz (ne_lst (da_cons de_int (da_cons de_int (da_cons de_int (da_cons de_int (da_cons de_int da_nil))))))) da_nil))) da_nil))) (dg_unp rfl (dgs_cons (dg_name nd rfl (.inr rfl)) (dgs_cons (dg_name nd rfl (.inl rfl)) dgs_nil))))
 (dss_cons (ds_par rfl nd rfl rfl (by decide) rfl rfl (da_cons (de_call (ok__law_draw hw) (hr.mono (by decide)) rfl hw.g__law_draw hw.f__law_draw.kp (bi__law_draw hw) tk (da_cons (de_var (i := 2) rfl (.inl rfl)) (da_cons (de_callB c_len rfl hw.n_len (by decide +kernel) (da_cons (de_var (i := 3) rfl (.inr (.inl rfl))) da_nil)) da_nil))) (da_cons (de_call (ok__law_draw hw) (hr.mono (by decide)) rfl hw.g__law_draw hw.f__law_draw.kp (bi__law_draw hw) tk (da_cons (de_var (i := 2) rfl (.inl rfl)) (da_cons (de_bin o_add (de_callB c_len rfl hw.n_len (by decide +kernel) (da_cons (de_var (i := 4) rfl (.inl rfl)) da_nil)) de_int) da_nil))) da_nil)) rfl)
 (dss_cons (ds_set nd rfl (.inl rfl) (NE.own (ne_lst (da_cons (NE.fz (ne_callTy (c_list rfl) rfl hw.n_list (by decide +kernel) (da_cons (de_var (i := 3) rfl (.inr (.inl rfl))) da_nil))) (da_cons (de_callTy c_tuple rfl hw.n_tuple (by decide +kernel) (da_cons (de_var (i := 3) rfl (.inr (.inl rfl))) da_nil)) (da_cons (NE.fz (ne_lst da_nil)) (da_cons de_non (da_cons de_int (da_cons de_str (da_cons de_str (da_cons de_dct0 (da_cons (de_bin o_add (de_var (i := 3) rfl (.inr (.inl rfl))) (NE.fz (ne_lst (da_cons (de_ix hr.b1 (de_var (i := 3) rfl (.inr (.inl rfl))) (de_var (i := 5) rfl (.inl rfl))) da_nil)))) (da_cons (de_bin o_add (de_var (i := 3) rfl (.inr (.inl rfl))) (NE.fz (ne_lc (own := [("k", 18)]) (c := (.one 18)) rfl nd (di_range1 rfl hw.n_range (da_cons de_int da_nil)) (blkOk_by (by kernel_rfl)) (by decide) (fun s H A cl fp => pg_name nd rfl (.inl rfl)) (fun s H A cl fp => dts_nil) (fun s H A cl fp => (de_bin o_add de_str (de_callTy c_str rfl hw.n_str (by decide +kernel) (da_cons (de_var (i := 18) rfl (.inl rfl)) da_nil))))))) da_nil)))))))))))))
 (dss_cons (ds_set nd rfl (.inl rfl) (NE.own (ne_cat (de_var (i := 7) rfl (.inl rfl)) (NE.fz (ne_lc (own := [("size", 17)]) (c := (.one 17)) rfl nd (di_seq (NE.fz (ne_lst (da_cons de_int (da_cons de_int da_nil))))) (blkOk_by (by kernel_rfl)) (by decide) (fun s H A cl fp => pg_name nd rfl (.inl rfl)) (fun s H A cl fp => dts_nil) (fun s H A cl fp => (NE.fz (ne_lc (own := [("k", 18)]) (c := (.one 18)) rfl nd (di_range1 rfl hw.n_range (da_cons (de_var (i := 17) rfl (.inl rfl)) da_nil)) (blkOk_by (by kernel_rfl)) (by decide) (fun s H A cl fp => pg_name nd rfl (.inl rfl)) (fun s H A cl fp => dts_nil) (fun s H A cl fp => (de_bin o_add de_str (de_callTy c_str rfl hw.n_str (by decide +kernel) (da_cons (de_var (i := 18) rfl (.inl rfl)) da_nil))))))))))))
 (dss_cons (ds_for pso rfl (di_seq (NE.fz (ne_lst (da_cons de_str (da_cons de_str (da_cons de_str (da_cons de_str (da_cons de_str (da_cons de_str (da_cons de_str (da_cons de_non (da_cons de_int (da_cons (NE.fz (ne_lst (da_cons de_str da_nil))) (da_cons de_str da_nil)))))))))))))) (dg_name nd rfl (.inl rfl)) (dss_one (ds_expr (de_bm tyc_list F.plainAttrs_list F.slot_list_append rfl m_append (de_var (i := 7) rfl (.inl rfl)) (da_cons (de_bin o_add (de_bin o_add (de_slice (de_var (i := 3) rfl (.inr (.inl rfl))) dp_no (dp_at (de_var (i := 5) rfl (.inl rfl)))) (NE.fz (ne_lst (da_cons (de_var (i := 8) rfl (.inl rfl)) da_nil)))) (de_slice (de_var (i := 3) rfl (.inr (.inl rfl))) (dp_at (de_bin o_add (de_var (i := 5) rfl (.inl rfl)) de_int)) dp_no)) da_nil)))))
 (dss_cons (ds_for pso rfl (di_seq (de_var (i := 7) rfl (.inl rfl))) (dg_tag nd rfl (.inr rfl)) (dss_cons (ds_set nd rfl (.inl rfl) (de_call (ok__law_f_names hw) (hr.mono (by decide)) rfl hw.g__law_f_names hw.f__law_f_names.kp (bi__law_f_names hw) tk (da_cons (de_var (i := 9) rfl (.inr (.inl rfl))) da_nil)))
 (dss_cons (ds_if (dt_not (dt_tr (de_call (ok__law_same hw) (hr.mono (by decide)) rfl hw.g__law_same hw.f__law_same.kp (bi__law_same hw) tk (da_cons (NE.fz (ne_lst (da_cons (de_call (ok_are_names hw) (hr.mono (by decide)) rfl hw.g_are_names hw.f_are_names.kp (bi_are_names hw) tk (da_cons (de_var (i := 9) rfl (.inr (.inl rfl))) da_nil)) (da_cons (de_callK0 (ks := ["thing"]) (perm := [0]) (ok_are_names hw) (hr.mono (by decide)) rfl hw.g_are_names hw.f_are_names.kp (kbn_of (hw.f_are_names) (n := 0) (ks := ["thing"]) fun _ _ _ _ _ _ us ws l1 l2 => match us, ws, l1, l2 with | [], [_], _, _ => rfl) tk fl (dk_cons (de_var (i := 9) rfl (.inr (.inl rfl))) dk_nil)) da_nil)))) (da_cons (NE.fz (ne_lst (da_cons (de_var (i := 10) rfl (.inl rfl)) (da_cons (de_var (i := 10) rfl (.inl rfl)) da_nil)))) da_nil))))) (dss_one (ds_ret de_bl))
 dss_nil)
 (dss_one (ds_for pso rfl (di_seq (NE.fz (ne_lst (da_cons (de_lam (L := L_law_0) (tab := tab_law) (makesL_by (q := "law.<locals>.<lambda>") tb rfl rfl h.nT_law h.nU_law (by kernel_rfl) rfl (.inr ⟨1, _, _, rfl, rfl⟩)) rfl) (da_cons (de_lam (L := L_law_1) (tab := tab_law) (makesL_by (q := "law.<locals>.<lambda>") tb rfl rfl h.nT_law h.nU_law (by kernel_rfl) rfl (.inr ⟨2, _, _, rfl, rfl⟩)) rfl) da_nil))))) (dg_name nd rfl (.inl rfl)) (dss_one (ds_if (dt_not (dt_tr (de_var (i := 10) rfl (.inl rfl)))) (dss_cons (ds_asg (de_met (x := "_law_f_met") (N := ["query", "e"]) (ps := ["query"]) (k := 16) (met__law_f_met (k := 16) h) lo (hr.mono (by decide)) rfl h.g__law_f_met h.f__law_f_met.kp (bi__law_f_met h) tk (da_cons (de_var (i := 11) rfl (.inl rfl)) da_nil)) (dg_unp rfl (dgs_cons (dg_name nd rfl (.inl rfl)) (dgs_cons (dg_name nd rfl (.inl rfl)) dgs_nil))))
 (dss_one (ds_if (DW.dt (dw_or (dt_cmp (o_ne hr.b64) (de_var (i := 12) rfl (.inl rfl)) de_str rfl) (dw_or1 (dt_not (dt_tr (de_call (ok__law_very hw) (hr.mono (by decide)) rfl hw.g__law_very hw.f__law_very.kp (bi__law_very hw) tk (da_cons (de_var (i := 13) rfl (.inl rfl)) (da_cons (de_var (i := 9) rfl (.inr (.inl rfl))) da_nil)))))))) (dss_one (ds_ret de_bl))
 dss_nil)))
 dss_nil)))))))
 (dss_cons (ds_par rfl nd rfl rfl (by decide) rfl rfl (da_cons (de_ix hr.b1 (de_var (i := 3) rfl (.inr (.inl rfl))) (de_var (i := 5) rfl (.inl rfl))) (da_cons (de_call (ok__law_b_some hw) (hr.mono (by decide)) rfl hw.g__law_b_some hw.f__law_b_some.kp (bi__law_b_some hw) tk (da_cons (de_var (i := 2) rfl (.inl rfl)) (da_cons (de_var (i := 3) rfl (.inr (.inl rfl))) da_nil))) da_nil)) rfl)
 (dss_cons (ds_set nd rfl (.inl rfl) (NE.own (ne_lst (da_cons (NE.fz (ne_callTy (c_list rfl) rfl hw.n_list (by decide +kernel) (da_cons (de_var (i := 4) rfl (.inl rfl)) da_nil))) (da_cons (de_callTy c_tuple rfl hw.n_tuple (by decide +kernel) (da_cons (de_var (i := 4) rfl (.inl rfl)) da_nil)) (da_cons (NE.fz (ne_lc (own := [("some", 16)]) (c := (.one 16)) rfl nd (di_seq (de_var (i := 4) rfl (.inl rfl))) (blkOk_by (by kernel_rfl)) (by decide) (fun s H A cl fp => pg_name nd rfl (.inl rfl)) (fun s H A cl fp => dts_nil) (fun s H A cl fp => (de_callTy c_tuple rfl hw.n_tuple (by decide +kernel) (da_cons (de_var (i := 16) rfl (.inl rfl)) da_nil))))) (da_cons (NE.fz (ne_lst da_nil)) (da_cons de_non (da_cons de_int (da_cons de_str (da_cons de_str (da_cons de_dct0 (da_cons (NE.fz (ne_lst (da_cons de_non da_nil))) (da_cons (de_bin o_add (de_var (i := 4) rfl (.inl rfl)) (NE.fz (ne_lst (da_cons (de_ix hr.b1 (de_var (i := 4) rfl (.inl rfl)) de_int) da_nil)))) (da_cons (de_bin o_add (de_var (i := 4) rfl (.inl rfl)) (NE.fz (ne_lst (da_cons (de_callTy c_tuple rfl hw.n_tuple (by decide +kernel) (da_cons (de_ix hr.b1 (de_var (i := 4) rfl (.inl rfl)) de_int) da_nil)) da_nil)))) (da_cons (de_var (i := 14) rfl (.inl rfl)) (da_cons (NE.fz (ne_lst (da_cons (de_var (i := 14) rfl (.inl rfl)) da_nil))) (da_cons (NE.fz (ne_lst (da_cons (NE.fz (ne_lst (da_cons (NE.fz (ne_lst (da_cons (de_var (i := 14) rfl (.inl rfl)) da_nil))) da_nil))) da_nil))) da_nil))))))))))))))))))
 (dss_cons (ds_for pso rfl (di_seq (NE.fz (ne_lst (da_cons (NE.fz (ne_lst (da_cons (de_var (i := 14) rfl (.inl rfl)) (da_cons (de_var (i := 14) rfl (.inl rfl)) da_nil)))) (da_cons (NE.fz (ne_lst (da_cons de_str da_nil))) (da_cons (de_revL (de_var (i := 15) rfl (.inl rfl))) (da_cons (de_bin o_add (de_var (i := 15) rfl (.inl rfl)) (NE.fz (ne_lst (da_cons de_non da_nil)))) (da_cons (de_bin o_add (de_var (i := 15) rfl (.inl rfl)) (de_slice (de_var (i := 15) rfl (.inl rfl)) (dp_at (de_un o_neg de_int)) dp_no)) (da_cons de_str (da_cons de_non (da_cons (de_bin o_add (de_var (i := 15) rfl (.inl rfl)) (NE.fz (ne_lst (da_cons de_str da_nil)))) (da_cons (de_var (i := 15) rfl (.inl rfl)) (da_cons (de_tup (da_cons (de_var (i := 14) rfl (.inl rfl)) da_nil)) (da_cons (NE.fz (ne_lst (da_cons de_int da_nil))) da_nil)))))))))))))) (dg_name nd rfl (.inl rfl)) (dss_one (ds_expr (de_bm tyc_list F.plainAttrs_list F.slot_list_append rfl m_append (de_var (i := 7) rfl (.inl rfl)) (da_cons (de_bin o_add (de_bin o_add (de_slice (de_var (i := 4) rfl (.inl rfl)) dp_no (dp_at (de_var (i := 6) rfl (.inl rfl)))) (NE.fz (ne_lst (da_cons (de_var (i := 16) rfl (.inl rfl)) da_nil)))) (de_slice (de_var (i := 4) rfl (.inl rfl)) (dp_at (de_var (i := 6) rfl (.inl rfl))) dp_no)) da_nil)))))
 (dss_one (ds_for pso rfl (di_seq (de_var (i := 7) rfl (.inl rfl))) (dg_tag nd rfl (.inr rfl)) (dss_cons (ds_set nd rfl (.inl rfl) (de_call (ok__law_f_lots hw) (hr.mono (by decide)) rfl hw.g__law_f_lots hw.f__law_f_lots.kp (bi__law_f_lots hw) tk (da_cons (de_var (i := 3) rfl (.inr (.inl rfl))) (da_cons (de_var (i := 9) rfl (.inr (.inl rfl))) da_nil))))
 (dss_cons (ds_if (dt_not (dt_tr (de_call (ok__law_same hw) (hr.mono (by decide)) rfl hw.g__law_same hw.f__law_same.kp (bi__law_same hw) tk (da_cons (NE.fz (ne_lst (da_cons (de_call (ok_are_lots hw) (hr.mono (by decide)) rfl hw.g_are_lots hw.f_are_lots.kp (bi_are_lots hw) tk (da_cons (NE.fz (ne_callTy (c_list rfl) rfl hw.n_list (by decide +kernel) (da_cons (de_var (i := 3) rfl (.inr (.inl rfl))) da_nil))) (da_cons (de_var (i := 9) rfl (.inr (.inl rfl))) da_nil))) (da_cons (de_callK0 (ks := ["thing", "names"]) (perm := [1, 0]) (ok_are_lots hw) (hr.mono (by decide)) rfl hw.g_are_lots hw.f_are_lots.kp (kbn_of (hw.f_are_lots) (n := 0) (ks := ["thing", "names"]) fun _ _ _ _ _ _ us ws l1 l2 => match us, ws, l1, l2 with | [], [_, _], _, _ => rfl) tk fl (dk_cons (de_var (i := 9) rfl (.inr (.inl rfl))) (dk_cons (de_callTy c_tuple rfl hw.n_tuple (by decide +kernel) (da_cons (de_var (i := 3) rfl (.inr (.inl rfl))) da_nil)) dk_nil))) da_nil)))) (da_cons (NE.fz (ne_lst (da_cons (de_var (i := 10) rfl (.inl rfl)) (da_cons (de_var (i := 10) rfl (.inl rfl)) da_nil)))) da_nil))))) (dss_one (ds_ret de_bl))
 dss_nil)
 (dss_cons (ds_asg (de_met (x := "_law_f_met") (N := ["query", "e"]) (ps := ["query"]) (k := 16) (met__law_f_met (k := 16) h) lo (hr.mono (by decide)) rfl h.g__law_f_met h.f__law_f_met.kp (bi__law_f_met h) tk (da_cons (de_lam (L := L_law_2) (tab := tab_law) (makesL_by (q := "law.<locals>.<lambda>") tb rfl rfl h.nT_law h.nU_law (by kernel_rfl) rfl (.inl ⟨rfl, rfl⟩)) rfl) da_nil)) (dg_unp rfl (dgs_cons (dg_name nd rfl (.inl rfl)) (dgs_cons (dg_name nd rfl (.inl rfl)) dgs_nil))))
 (dss_cons (ds_if (DW.dt (dw_or (dt_cmp (o_ne hr.b64) (de_cmp (o_eq hr.b64) (de_var (i := 12) rfl (.inl rfl)) de_str rfl) (de_var (i := 10) rfl (.inl rfl)) rfl) (dw_or1 (DW.dt (dw_and (dt_not (dt_tr (de_var (i := 10) rfl (.inl rfl)))) (dw_and1 (DW.dt (dw_or (dt_cmp (o_ne hr.b64) (de_var (i := 12) rfl (.inl rfl)) de_str rfl) (dw_or1 (dt_not (dt_tr (de_call (ok__law_very hw) (hr.mono (by decide)) rfl hw.g__law_very hw.f__law_very.kp (bi__law_very hw) tk (da_cons (de_var (i := 13) rfl (.inl rfl)) (da_cons (de_var (i := 9) rfl (.inr (.inl rfl))) da_nil)))))))))))))) (dss_one (ds_ret de_bl))
 dss_nil)
 (dss_one (ds_if (dt_cmp (o_ne hr.b64) (de_ix hr.b1 (de_met (x := "_law_f_met") (N := ["query", "e"]) (ps := ["query"]) (k := 16) (met__law_f_met (k := 16) h) lo (hr.mono (by decide)) rfl h.g__law_f_met h.f__law_f_met.kp (bi__law_f_met h) tk (da_cons (de_lam (L := L_law_3) (tab := tab_law) (makesL_by (q := "law.<locals>.<lambda>") tb rfl rfl h.nT_law h.nU_law (by kernel_rfl) rfl (.inl ⟨rfl, rfl⟩)) rfl) da_nil)) de_int) (de_var (i := 12) rfl (.inl rfl)) rfl) (dss_one (ds_ret de_bl))
 dss_nil)))))))))))))))))))
 (dss_one (ds_ret (de_andT (de_cmp o_isB (de_call (ok_are_lots hw) (hr.mono (by decide)) rfl hw.g_are_lots hw.f_are_lots.kp (bi_are_lots hw) tk (da_cons (NE.fz (ne_lst (da_cons de_str (da_cons de_str da_nil)))) (da_cons (NE.fz (ne_lst (da_cons de_str da_nil))) da_nil))) de_bl rfl) (de_one (de_cmp o_isB (de_call (ok_are_lots hw) (hr.mono (by decide)) rfl hw.g_are_lots hw.f_are_lots.kp (bi_are_lots hw) tk (da_cons (NE.fz (ne_lst (da_cons de_str da_nil))) (da_cons (NE.fz (ne_lst (da_cons de_str da_nil))) da_nil))) de_bl rfl))))))
end
end K02
end
section
set_option Elab.async false
set_option linter.all false
set_option maxRecDepth 100000
set_option maxHeartbeats 2000000
/-! HY: what the head tells, read by a Hook: defs, classes, own errors. -/
namespace DV
open PySem PySem.Spec PyProof.Rows L2 He
theorem fun_of {K : PySem.W.Frag} {x q : Str} {st : Stmt} {f : Addr} {fd : FuncData} (F : FunD K x q (defArgs st) (defBody st) (defScope st) [] [] f fd) : Fun K x q st f fd := by
  obtain ⟨oc, od, dV, kV, doc, pm, an, cdv, ct, osl, h1, h2, h3, h4, _⟩ := F.ex
  rcases h4 with ⟨_, h4⟩ | ⟨h4, _⟩
  · subst h4
    exact ⟨⟨oc, od, kV, doc, pm, an, cdv, ct, osl, h1, h2, h3⟩, F.kp⟩
  · exact absurd rfl h4
theorem funC_of {K : PySem.W.Frag} {x q : Str} {st : Stmt} {p : Str × Option Str} {fd : FuncData} (F : FunD K x q (defArgs st) (defBody st) (defScope st) [] [] (fAd K p) fd) : FunC K x q st (fAd K p) fd (codeOf K p) := by
  obtain ⟨oc, od, dV, kV, doc, pm, an, cdv, ct, osl, h1, h2, h3, h4, _⟩ := F.ex
  obtain ⟨c, hc⟩ := codeIn_ref h3
  subst hc
  have e : codeOf K p = c := codeOf_eq h2 (by rw [h1])
  rcases h4 with ⟨_, h4⟩ | ⟨h4, _⟩
  · subst h4
    rw [e]
    exact ⟨⟨oc, od, kV, doc, pm, an, ct, osl, h1, h2, h3⟩, F.kp⟩
  · exact absurd rfl h4
/-- the class object of an own error -/
def oexB (K : PySem.W.Frag) (C : Addr) : Bool := (match K.lookup C with
  | some ⟨.type t, _, .cls cd, sl⟩ => decide (t = "type") && (match cd.mro, sl.toList with
    | .ref C' :: bm, [_, _, _, _, some (.builtin n), _] => C' == C && (n == "ValueError.__new__" && (!cd.hasDel && (cd.hasDict && PySem.HandSPX.refsVE bm)))
    | _, _ => false)
  | _ => false) && (eqO (PySem.W.findIn K (.ref C) "__setattr__") (some (some (.builtin "object.__setattr__"))) && (decide (PySem.W.subIn K (.ref C) (.type "BaseException") = some true) && (decide (PySem.W.typeIn K (.ref C) = some (.type "type")) && PySem.W.keepIn K (.ref C))))
theorem oexB_ok {K : PySem.W.Frag} {C : Addr} (h : oexB K C = true) : OexC K C := by
  unfold oexB at h
  obtain ⟨h0, h⟩ := ba h
  obtain ⟨h1, h⟩ := ba h
  obtain ⟨h2, h⟩ := ba h
  obtain ⟨h3, h4⟩ := ba h
  refine ⟨?_, eqO_ok h1, of_decide_eq_true h2, of_decide_eq_true h3, h4⟩
  split at h0
  · rename_i t od cd sl hl
    obtain ⟨ht, h0⟩ := ba h0
    have ht := of_decide_eq_true ht
    split at h0
    · rename_i C' bm k0 k1 k2 k3 n k5 hm hs
      simp only [Bool.and_eq_true, beq_iff_eq, Bool.not_eq_true'] at h0
      obtain ⟨rfl, rfl, hdel, hdct, hr⟩ := h0
      obtain ⟨nm, bs, mro, ns, qn, hd, sn, sub, ab, col, del⟩ := cd
      dsimp only at hm hdel hdct
      subst hm hdel hdct ht
      have hsl : sl = #[k0, k1, k2, k3, some (.builtin "ValueError.__new__"), k5] := by
        obtain ⟨l⟩ := sl
        simp only at hs
        rw [hs]
      subst hsl
      exact ⟨nm, qn, ns, bs, bm, sn, sub, ab, col, od, k0, k1, k2, k3, k5, hl, hr⟩
    · cases h0
  · cases h0
/-- an own error: its class's name, its __init__, its parameter and field -/
structure IniD where
  cls : Str
  st : Stmt
  par : Str
  fld : Str
abbrev FnY : Type := Option (Str × Str × Arguments × FuncBody × Scope × Addr × List Str × Addr)
def fnY (K : PySem.W.Frag) (d : IniD) : FnY := match K.lookup (ma K (ga K d.cls) "__init__") with
  | some ⟨_, _, .func fd, _⟩ => some (fd.name, fd.qualname, fd.params, fd.body, fd.scope, fd.globals, fd.closure.map (·.1), fd.builtins)
  | _ => none
def IniD.val (d : IniD) : FnY := some ("__init__", d.cls ++ ".__init__", defArgs d.st, .stmts (defBody d.st), defScope d.st, mainGlobals, ["__class__"], builtinsNs)
def IniD.ok (P : Program) (K : PySem.W.Frag) (d : IniD) : Bool :=
  eqO (PySem.W.findIn K (.ref (ga K d.cls)) "__init__") (some (some (.ref (ma K (ga K d.cls) "__init__")))) && (decide (PySem.W.typeIn K (.ref (ma K (ga K d.cls) "__init__")) = some (.type "function")) &&
  ((match K.lookup (ma K (ga K d.cls) "__init__") with
    | some ⟨_, _, .func fd, _⟩ => (match fd.defaults with
      | .none => true
      | _ => false) && (PySem.W.codeIn K fd.code (d.cls ++ ".__init__") && ((match fd.code with
      | .ref cda => (match K.lookup cda with
        | some ⟨_, _, .fields vs, _⟩ => (match (vs[2]? : Option Value) with
          | some (.str file _) => (P.main.file : Str) == file
          | _ => false)
        | _ => false)
      | _ => false) && (match fd.closure with
        | [(_, cc)] => (match K.lookup cc with
          | some ⟨_, _, .cell (some (.ref C')), _⟩ => C' == ga K d.cls
          | _ => false)
        | _ => false)))
    | _ => false) &&
  ((PySem.W.clsIn K (ga K d.cls)).isSome && (decide (PySem.W.mroIn K (ga K d.cls) (.ref (ga K d.cls)) = some true) && (decide (PySem.W.ks_superIn K (ga K d.cls) (ga K d.cls) "__init__" = some (some (.builtin "ValueError.__init__"))) &&
  (decide (PySem.W.subIn K (.ref (ga K d.cls)) (.type "ValueError") = some true) && (eqO (PySem.W.nsIn K cStatics "thirdparty.any") (some none) && (oexB K (ga K d.cls) && (xfB K (ga K d.cls) && eqO (PySem.W.findIn K (.ref (ga K d.cls)) d.fld) (some none))))))))))
theorem IniD.sup {P : Program} {K : PySem.W.Frag} {d : IniD} (h : d.ok P K = true) (e : fnY K d = d.val) (top : (P.main.scope.names.lookup ("super" : Str)).isSome = false) :
    ∃ (cc cda : Addr) (kV doc pm ct : Value) (an : Option Addr), SupI P K (ga K d.cls) (ma K (ga K d.cls) "__init__") cc cda (PySem.W.fnX "__init__" (d.cls ++ ".__init__") (defArgs d.st) (defBody d.st) (defScope d.st) [("__class__", cc)] .none kV doc pm an (.ref cda) ct) ∧ PySem.W.codeIn K (.ref cda) (d.cls ++ ".__init__") = true := by
  unfold IniD.ok at h
  obtain ⟨h1, h⟩ := ba h
  obtain ⟨h2, h⟩ := ba h
  obtain ⟨h3, h⟩ := ba h
  obtain ⟨h4, h⟩ := ba h
  obtain ⟨h5, h⟩ := ba h
  obtain ⟨h6, h⟩ := ba h
  obtain ⟨h7, h⟩ := ba h
  obtain ⟨h8, h⟩ := ba h
  obtain ⟨h9, h⟩ := ba h
  obtain ⟨h10, h11⟩ := ba h
  unfold fnY at e
  cases q : K.lookup (ma K (ga K d.cls) "__init__") with
  | none =>
    rw [q] at h3
    cases h3
  | some o =>
    obtain ⟨oc, od, dt, osl⟩ := o
    rw [q] at h3 e
    cases dt with
    | func fd =>
      obtain ⟨n1, n2, n3, n4, n5, n6, n7, n8, n9, n10, n11, n12, n13, n14, n15⟩ := fd
      have e2 : (some (n1, n2, n3, n4, n5, n6, n7.map (·.1), n15) : FnY) = some (("__init__" : Str), d.cls ++ ".__init__", defArgs d.st, FuncBody.stmts (defBody d.st), defScope d.st, mainGlobals, [("__class__" : Str)], builtinsNs) := e
      simp only [Option.some.injEq, Prod.mk.injEq] at e2
      obtain ⟨g1, g2, g3, g4, g5, g6, g7, g8⟩ := e2
      subst g1 g2 g3 g4 g5 g6 g8
      obtain ⟨hdV, h3⟩ := ba h3
      dsimp only at hdV
      have hdV : n8 = .none := by
        cases n8 with
        | none => rfl
        | _ => cases hdV
      subst hdV
      obtain ⟨h3a, h3⟩ := ba h3
      obtain ⟨h3b, h3c⟩ := ba h3
      obtain ⟨cda, hcda⟩ := codeIn_ref h3a
      dsimp only at hcda h3b h3c
      subst hcda
      dsimp only at h3b
      match n7, g7, h3c with
      | [(y, cc)], g7, h3c =>
        have g7 : y = "__class__" := by simpa using g7
        subst g7
        dsimp only at h3c
        refine ⟨cc, cda, _, _, _, _, _, ⟨⟨oc, od, osl, q⟩, ?_, ?_, ?_, of_decide_eq_true h5, of_decide_eq_true h6, of_decide_eq_true h7, eqO_ok h8, top, oexB_ok h9⟩, h3a⟩
        · split at h3b
          · rename_i xc xd vs xs hx
            split at h3b
            · rename_i file t hf
              exact ⟨_, _, _, vs, file, t, hx, hf, h3b⟩
            · cases h3b
          · cases h3b
        · split at h3c
          · rename_i xc xd C' xs hx
            have z : C' = ga K d.cls := beq_iff_eq.mp h3c
            subst z
            exact ⟨_, _, _, hx⟩
          · cases h3c
        · exact Option.isSome_iff_exists.mp h4
    | _ => cases h3
theorem IniD.rest {P : Program} {K : PySem.W.Frag} {d : IniD} (h : d.ok P K = true) : PySem.W.findIn K (.ref (ga K d.cls)) "__init__" = some (some (.ref (ma K (ga K d.cls) "__init__"))) ∧ PySem.W.typeIn K (.ref (ma K (ga K d.cls) "__init__")) = some (.type "function") ∧ OexC K (ga K d.cls) ∧ XfC K (ga K d.cls) ∧ PySem.W.findIn K (.ref (ga K d.cls)) d.fld = some none := by
  unfold IniD.ok at h
  obtain ⟨h1, h⟩ := ba h
  obtain ⟨h2, h⟩ := ba h
  obtain ⟨h3, h⟩ := ba h
  obtain ⟨h4, h⟩ := ba h
  obtain ⟨h5, h⟩ := ba h
  obtain ⟨h6, h⟩ := ba h
  obtain ⟨h7, h⟩ := ba h
  obtain ⟨h8, h⟩ := ba h
  obtain ⟨h9, h⟩ := ba h
  obtain ⟨h10, h11⟩ := ba h
  exact ⟨eqO_ok h1, of_decide_eq_true h2, oexB_ok h9, xfB_ok h10, eqO_ok h11⟩
def isiB (K : PySem.W.Frag) (a : Addr) : Bool := eqO (PySem.W.findIn K (.ref a) "__class__") (some (some (.builtin "object.__class__"))) && (eqO (PySem.W.specialIn K (.builtin "object.__class__") "__get__") (some (some (.builtin "getset_descriptor.__get__"))) && (decide (PySem.W.takesIn K (.builtin "object.__class__") = some true) && decide (PySem.W.mroIn K a (.type "object") = some true)))
theorem isiB_ok {K : PySem.W.Frag} {a : Addr} (h : isiB K a = true) (c : Cls K a) : IsiC K a := by
  unfold isiB at h
  obtain ⟨h1, h⟩ := ba h
  obtain ⟨h2, h⟩ := ba h
  obtain ⟨h3, h4⟩ := ba h
  exact ⟨c, eqO_ok h1, eqO_ok h2, of_decide_eq_true h3, of_decide_eq_true h4⟩
/-! ### the Hook -/
structure SaysY (P : Program) (fa : List Fa) (fn : List DefD) (ini : List IniD) (isi : List Str) (tf : List Defn) (h : Heap) (K : PySem.W.Frag) : Prop where
  d : SaysD fa fn K
  i : ini.map (fnY K) = ini.map IniD.val
  io : ∀ d ∈ ini, d.ok P K = true
  is : ∀ x ∈ isi, isiB K (ga K x) = true
  hd : ∀ p ∈ tf, PySem.W.codeHdIn K (cT K p).1 (cT K p).2 = true
  out : ∀ p ∈ tf, K.lookup (cT K p).2 = none
  empty : ∀ p ∈ tf, h.get? (cT K p).2 = some { cls := .none, data := .fields #[] }
theorem SaysY.ini {P : Program} {fa : List Fa} {fn : List DefD} {ini : List IniD} {isi : List Str} {tf : List Defn} {h : Heap} {K : PySem.W.Frag} (c : SaysY P fa fn ini isi tf h K) {d : IniD} (hd : d ∈ ini) : d.ok P K = true ∧ fnY K d = d.val := by
  refine ⟨c.io d hd, ?_⟩
  obtain ⟨i, hi, e⟩ := List.mem_iff_getElem.mp hd
  have e2 : (ini.map (fnY K))[i]? = (ini.map IniD.val)[i]? := by rw [c.i]
  rw [List.getElem?_map, List.getElem?_map, List.getElem?_eq_getElem hi, e] at e2
  exact Option.some.inj e2
abbrev AlY : Type := AlD × List FnY × Bool
def frY (n : Nat) (g : Addr → Option Obj) : PySem.W.Frag := frT g (asD g n ++ [cStatics])
def obsY (P : Program) (n : Nat) (fa : List Fa) (fn : List DefD) (ini : List IniD) (isi : List Str) (tf : List Defn) (g : Addr → Option Obj) : AlY :=
  (obsD fa fn (frY n g), ini.map (fnY (frY n g)), (ini.all fun d => d.ok P (frY n g)) && ((isi.all fun x => isiB (frY n g) (ga (frY n g) x)) && tabsB g tf (frY n g)))
def valY (fn : List DefD) (ini : List IniD) : AlY := (valD fn, ini.map IniD.val, true)
theorem saysY_of {P : Program} {n : Nat} {fa : List Fa} {fn : List DefD} {ini : List IniD} {isi : List Str} {tf : List Defn} {h : Heap} (e : obsY P n fa fn ini isi tf h.get? = valY fn ini) : SaysY P fa fn ini isi tf h (frY n h.get?) := by
  have e1 : obsD fa fn (frY n h.get?) = valD fn := congrArg (fun z : AlY => z.1) e
  have e2 : ini.map (fnY (frY n h.get?)) = ini.map IniD.val := congrArg (fun z : AlY => z.2.1) e
  have e3 : ((ini.all fun d => d.ok P (frY n h.get?)) && ((isi.all fun x => isiB (frY n h.get?) (ga (frY n h.get?) x)) && tabsB h.get? tf (frY n h.get?))) = true := congrArg (fun z : AlY => z.2.2) e
  obtain ⟨h1, h2⟩ := ba e3
  obtain ⟨h2, h3⟩ := ba h2
  have key : ∀ p ∈ tf, PySem.W.codeHdIn (frY n h.get?) (cT (frY n h.get?) p).1 (cT (frY n h.get?) p).2 = true ∧ ∃ o, h.get? (cT (frY n h.get?) p).2 = some o ∧ emptyTab o = true := fun p hp => by
    obtain ⟨h3, h4⟩ := ba (List.all_eq_true.mp h3 p hp)
    refine ⟨h3, ?_⟩
    cases q : h.get? (cT (frY n h.get?) p).2 with
    | none =>
      rw [q] at h4
      cases h4
    | some o =>
      rw [q] at h4
      exact ⟨o, rfl, h4⟩
  exact ⟨e1, e2, fun d hd => List.all_eq_true.mp h1 d hd, fun x hx => List.all_eq_true.mp h2 x hx, fun p hp => (key p hp).1, fun p hp => by
    obtain ⟨_, o, q, z⟩ := key p hp
    exact frT_none q z, fun p hp => by
    obtain ⟨_, o, q, z⟩ := key p hp
    rw [q, emptyTab_eq z]⟩
def hookY (P : Program) (n : Nat) (fa : List Fa) (fn : List DefD) (ini : List IniD) (isi : List Str) (tf : List Defn) : PySem.W.Hook where
  α := AlY
  obs := fun s => obsY P n fa fn ini isi tf s.heap.get?
  val := fun _ => valY fn ini
  says := fun _ h => ∃ K : PySem.W.Frag, K.In h ∧ SaysY P fa fn ini isi tf h K
  of := fun _ _ e => ⟨_, frT_in, saysY_of e⟩
  keeps := fun _ _ _ ⟨K, hK, c⟩ k => ⟨K, PySem.W.Frag.In.keeps hK k, ⟨c.d, c.i, c.io, c.is, c.hd, c.out, fun p hp => k _ _ (c.empty p hp)⟩⟩
theorem obsY_eq {P : Program} {n : Nat} {fa : List Fa} {fn : List DefD} {ini : List IniD} {isi : List Str} {tf : List Defn} {g : Addr → Option Obj} {s : Shared} (h : ∀ a, g a = s.heap.get? a) : obsY P n fa fn ini isi tf g = (hookY P n fa fn ini isi tf).obs s := by
  have e : g = s.heap.get? := funext h
  rw [e] <;> rfl
/-! ### an own error's facts -/
/-- what has the shape of such an __init__ -/
theorem excH_of {C : Cfg} {P : Program} {w : World} {K : PySem.W.Frag} {mg : Str → Option Value} {h : Heap} {d : IniD} {c : Nat} {m sf : Str} {j : Nat} {q : Nat → Pos} {r0 : Arg} {pl : Sem Bool}
    (X : K.In h) (G : h.Ns mainGlobals mg) (ok : d.ok P K = true) (e : fnY K d = d.val) (glo : (Fa.glo d.cls).ok K = true) (top : (P.main.scope.names.lookup ("super" : Str)).isSome = false)
    (ca : C.ca c = ga K d.cls) (cf : C.cf c = [d.fld]) (hsup : mg "super" = none)
    (body : defBody d.st = initBody m d.fld d.par j sf q) (NS : NdefX.nscB [sf, d.par, "__class__"] [sf, d.par] ["__class__"] (defScope d.st) = true) (hks : (defScope d.st).names.lookup ("super" : Str) = some .globalImplicit) (hp : ((defArgs d.st).posonlyargs ++ (defArgs d.st).args).head? = some r0) (h0 : r0.arg = sf)
    (he : ∀ (cc cda L : Addr), eval (.Call (.Attribute (.Call (.Name "super" (q 0)) [] [] (q 1)) "__init__" (q 2)) [.Constant (.str m) j (q 3)] [] (q 4)) (PySem.W.envX (d.cls ++ ".__init__") (defScope d.st) L (ma K (ga K d.cls) "__init__") (.ref cda) [("__class__", cc)]) = (do
      let ov ← attributeBase (.Call (.Name "super" (q 0)) [] [] (q 1)) "__init__" (PySem.W.envX (d.cls ++ ".__init__") (defScope d.st) L (ma K (ga K d.cls) "__init__") (.ref cda) [("__class__", cc)]) (eval (.Call (.Name "super" (q 0)) [] [] (q 1)) (PySem.W.envX (d.cls ++ ".__init__") (defScope d.st) L (ma K (ga K d.cls) "__init__") (.ref cda) [("__class__", cc)]))
      standAt (q 2).atName
      let (g0, first) ← holding [ov] (getMethod ov "__init__" pl)
      callWith (q 4) g0 first (backTo (q 4) (starEach [.Constant (.str m) j (q 3)] (PySem.W.envX (d.cls ++ ".__init__") (defScope d.st) L (ma K (ga K d.cls) "__init__") (.ref cda) [("__class__", cc)]))) []))
    (hb : ∀ (kV doc pm ct : Value) (an : Option Addr) (cda cc : Addr) (us : List Value), us.length = 2 → bindArgs (PySem.W.fnX "__init__" (d.cls ++ ".__init__") (defArgs d.st) (defBody d.st) (defScope d.st) [("__class__", cc)] .none kV doc pm an (.ref cda) ct) ⟨us, []⟩ = pure ([("self" : Str), d.par].zip us)) (hs : sf = "self")
    (dp : (d.par == ("__debug__" : Str)) = false := by decide) (cp : (d.par == ("__classdict__" : Str)) = false := by decide) : Nonempty (ExcH C P w K mg d.cls d.par d.fld c) := by
  subst hs
  obtain ⟨cc, cda, kV, doc, pm, ct, an, S, hcd⟩ := IniD.sup ok e top
  obtain ⟨e1, e2, e3, e4, e5⟩ := IniD.rest ok
  refine ⟨⟨?_, ?_, ma K (ga K d.cls) "__init__", PySem.W.fnX "__init__" (d.cls ++ ".__init__") (defArgs d.st) (defBody d.st) (defScope d.st) [("__class__", cc)] .none kV doc pm an (.ref cda) ct, ?_, e2, cf, fun base k => ?_, fun s us hl => ?_, ?_, ?_⟩⟩
  · rw [ca]
    exact glo_ok X G glo
  · rw [ca]
    exact e3
  · rw [ca]
    exact e1
  · rw [ca]
    have S' := S
    rw [body] at S' ⊢
    exact fn_init S' hcd e5 (NdefX.nscope_by NS) hks hsup hp h0 (fun L => he cc cda L) (r1 := r0) (by decide) (by decide) dp cp
  · exact Binds.all (fun us hl => hb kV doc pm ct an cda cc us hl) s us hl
  · rw [ca]
    exact e4
  · rw [ca]
    exact e5
end DV
end
section
set_option Elab.async false
set_option linter.all false
set_option maxRecDepth 100000
set_option maxHeartbeats 2000000
/-! EW: the end of a law over its mirror. -/
namespace DV
open PySem PySem.Spec PyProof.Rows L2 He
/-- how the script may come -/
def scrD (d : D) (ns : List Int) : Prop := d = .scr ns ∨ d = .kl (ns.map D.int)
theorem ints_rd {C : Cfg} {K : PySem.W.Frag} {W : Wd} {H : Hp} : ∀ ns : List Int, RDs C K W H (ns.map D.int) (ns.map V.int)
  | [] => rfl
  | n :: ns => ⟨_, _, rfl, rfl, ints_rd ns⟩
theorem sp_law {C : Cfg} {K : PySem.W.Frag} {F : S → List D → Out D} {H : Hp} {a : Addr} {ns : List Int} {Q : VK} {E : XK} (hT : ∀ p ∈ C.T, H p.1 = some (.tbl #[])) (hS : SqL K H a (ns.map V.int)) (hF : ∀ d, scrD d ns → ∃ s', F ⟨[], 0⟩ [d] = .ok (.bl true) s') (hQ : ∀ H', Q (.bl true) H') : spD C K F [.ref a] H Q E := by
  have tb : ∀ W, Tbs C.T W H := fun W => ⟨fun p hp => .nil (hT p hp), fun p hp ps e pos c hc => by
    rw [hT p hp] at e
    cases e
    simp [codeAmong] at hc⟩
  rcases hS with hS | hS
  · obtain ⟨s', e⟩ := hF (.scr ns) (.inl rfl)
    refine ⟨⟨fun b => b = a, [], []⟩, ⟨[], 0⟩, [.scr ns], ⟨rfl, rfl, .nil, fun i o b h => by simp at h, fun b hb => ?_, (fun b hb => by cases hb), tb _⟩, ⟨_, _, rfl, ⟨a, rfl, rfl, hS⟩, rfl⟩, ?_⟩
    · have hb : b = a := hb
      subst hb
      rcases hS with e | ⟨o, e⟩
      · exact ⟨by rw [e]; exact fun z => (nomatch z), fun o h => by rw [e] at h; cases h; exact fun _ z => (nomatch z), fun i h => by simp at h⟩
      · exact ⟨by rw [e]; exact fun z => (nomatch z), fun o h => by rw [e] at h; cases h; exact fun _ z => (nomatch z), fun i h => by simp at h⟩
    · rw [e]
      intro W' H' v _ _ r
      have r : v = .bl true := r
      rw [r]
      exact hQ H'
  · obtain ⟨s', e⟩ := hF (.kl (ns.map D.int)) (.inr rfl)
    refine ⟨⟨fun _ => False, [], []⟩, ⟨[], 0⟩, [.kl (ns.map D.int)], ⟨rfl, rfl, .nil, fun i o b h => by simp at h, fun b hb => hb.elim, (fun b hb => by cases hb), tb _⟩, ⟨_, _, rfl, ⟨a, _, rfl, hS, ints_rd ns⟩, rfl⟩, ?_⟩
    rw [e]
    intro W' H' v _ _ r
    have r : v = .bl true := r
    rw [r]
    exact hQ H'
/-- the law at the head's heap -/
theorem lawAt_of {l : PySem.W.OpenLaw} {fa : List Fa} {fn : List DefD} {ini : List IniD} {isi : List Str} {tf : List Defn} {w : World} {K : PySem.W.Frag} {mg : Str → Option Value} {h : Heap} {f : Addr} {fd : FuncData} {C : Cfg} {F : S → List D → Out D} {k : Nat}
    (X : K.In h) (c : SaysY l.prog fa fn ini isi tf h K) (hT : C.T.map (·.1) = tf.map fun p => (cT K p).2) (hb : Binds K fd ["script"] [])
    (hF : ∀ (ns : List Int) (d : D), ns.length ≤ 63 → (∀ z ∈ ns, Builtin.Int.intBits z ≤ 1048576) → scrD d ns → ∃ s', F ⟨[], 0⟩ [d] = .ok (.bl true) s')
    (ok : ∀ base : Heap, K.In base → base.Ns mainGlobals mg → (∀ p ∈ tf, LamX.TabB base mg (cT K p).1 (cT K p).2) → FnOk l.prog w K mg base (L2.CX l.prog w) k f fd ["script"] (spD C K F)) (hk : ∀ s : Shared, ∀ u : Value, BindsTo s fd ⟨[u], []⟩ [("script", u)]) :
    LamX.LawAtS l w K (L2.CX l.prog w) k 63 "script" mg f h := by
  refine ⟨fd, tf.map (cT K), spD C K F, fun p hp => ?_, fun p hp => ?_, fun p hp => ?_, hk, fun H a ns hl hbits hH hS => ?_, fun base b1 b2 b3 => ok base b1 b2 fun p hp => b3 _ (List.mem_map.mpr ⟨p, hp, rfl⟩)⟩
  · obtain ⟨q, hq, rfl⟩ := List.mem_map.mp hp
    exact c.empty q hq
  · obtain ⟨q, hq, rfl⟩ := List.mem_map.mp hp
    exact c.out q hq
  · obtain ⟨q, hq, rfl⟩ := List.mem_map.mp hp
    exact PySem.W.codeHd_of_K X (c.hd q hq)
  · refine sp_law (fun p hp => ?_) hS (fun d hd => hF ns d hl hbits hd) fun _ => rfl
    have e : p.1 ∈ tf.map fun p => (cT K p).2 := by
      rw [← hT]
      exact List.mem_map.mpr ⟨p, hp, rfl⟩
    obtain ⟨q, hq, z⟩ := List.mem_map.mp e
    have := hH _ (List.mem_map.mpr ⟨q, hq, rfl⟩)
    rw [← z]
    exact this
theorem fun_bindsTo {K : PySem.W.Frag} {x qual : Str} {st : Stmt} {f : Addr} {fd : FuncData} {ps : List Str} (F : Fun K x qual st f fd)
    (h : ∀ (kV doc pm : Value) (an : Option Addr) (cdv ct : Value) (us : List Value), us.length = ps.length → bindArgs (PySem.W.fnOf x qual (defArgs st) (defBody st) (defScope st) .none kV doc pm an cdv ct) ⟨us, []⟩ = pure (ps.zip us)) (s : Shared) (us : List Value) (hl : us.length = ps.length) : BindsTo s fd ⟨us, []⟩ (ps.zip us) := by
  obtain ⟨oc, od, kV, doc, pm, an, cdv, ct, osl, rfl, _, _⟩ := F.ex
  exact .of_eq (h _ _ _ _ _ _ us hl)
theorem cx_empty {P : Program} {w : World} {H : Hp} {s : Shared} {e : Value} {s' : Shared} (h : L2.CX P w [] H s (fun _ _ _ => False) e s') : False := by
  obtain ⟨_, _, _, _, _, _, _, _, _, _, _, _, z⟩ := h
  exact z
end DV
end
section
set_option Elab.async false
set_option linter.all false
set_option maxRecDepth 100000
set_option maxHeartbeats 8000000
namespace K02
open PySem PySem.Spec PyProof.Rows L2 DV He
abbrev RW : PySem.W.OpenLaw := PySem.Challenge.rw_oneortwo_k02_whole_names_and_lots_refuse
abbrev PR : Program := RW.prog
def fa : List He.Fa := [.free "len", .free "enumerate", .free "int", .free "list", .free "range", .free "str", .free "sorted", .free "isinstance", .free "all", .free "tuple", .free "dict", .free "zip", .free "bool", .free "super", .glo "_law_spring", .glo "_law_draw", .glo "_law_pick", .glo "_law_b_names", .glo "_law_mixed", .glo "_law_b_bits", .glo "_law_b_det", .glo "_law_b_shape", .glo "_law_b_drawn", .glo "_law_f_name", .glo "_law_f_names", .glo "_law_b_some", .glo "_law_b_lot", .glo "_law_f_lots", .glo "_law_f_met", .glo "is_list", .glo "is_lot", .glo "are_right_lots", .glo "is_name", .glo "are_names", .glo "are_lots", .glo "_law_same", .glo "check_names", .glo "mask_of", .glo "_law_very", .glo "law", .glo "BadNames", .glo "BadLots", .exm "BadNames" "BadNames" true, .exm "BadNames" "BadLots" false, .exm "BadLots" "BadNames" false, .exm "BadLots" "BadLots" true, .glo "Family", .cls "Family", .mkr "Family", .noat "Family" "own", .noat "Family" "masks", .str "LETTERS" "abcdefghijklmnopqrstuvwxyz", .str "SIGNS" "abcdefghijklmnopqrstuvwxyz0123456789", .int "EIGHT" 8]
def fd0 : He.DefD := ⟨("_law_spring", none), "_law_spring", "_law_spring", defArgs st__law_spring, defBody st__law_spring, defScope st__law_spring, [], []⟩
def fd1 : He.DefD := ⟨("_law_draw", none), "_law_draw", "_law_draw", defArgs st__law_draw, defBody st__law_draw, defScope st__law_draw, [], []⟩
def fd2 : He.DefD := ⟨("_law_pick", none), "_law_pick", "_law_pick", defArgs st__law_pick, defBody st__law_pick, defScope st__law_pick, [], []⟩
def fd3 : He.DefD := ⟨("_law_b_names", none), "_law_b_names", "_law_b_names", defArgs st__law_b_names, defBody st__law_b_names, defScope st__law_b_names, [], []⟩
def fd4 : He.DefD := ⟨("_law_mixed", none), "_law_mixed", "_law_mixed", defArgs st__law_mixed, defBody st__law_mixed, defScope st__law_mixed, [], []⟩
def fd5 : He.DefD := ⟨("_law_b_bits", none), "_law_b_bits", "_law_b_bits", defArgs st__law_b_bits, defBody st__law_b_bits, defScope st__law_b_bits, [], []⟩
def fd6 : He.DefD := ⟨("_law_b_det", none), "_law_b_det", "_law_b_det", defArgs st__law_b_det, defBody st__law_b_det, defScope st__law_b_det, [], []⟩
def fd7 : He.DefD := ⟨("_law_b_shape", none), "_law_b_shape", "_law_b_shape", defArgs st__law_b_shape, defBody st__law_b_shape, defScope st__law_b_shape, [], []⟩
def fd8 : He.DefD := ⟨("_law_b_drawn", none), "_law_b_drawn", "_law_b_drawn", defArgs st__law_b_drawn, defBody st__law_b_drawn, defScope st__law_b_drawn, [], []⟩
def fd9 : He.DefD := ⟨("_law_f_name", none), "_law_f_name", "_law_f_name", defArgs st__law_f_name, defBody st__law_f_name, defScope st__law_f_name, [], []⟩
def fd10 : He.DefD := ⟨("_law_f_names", none), "_law_f_names", "_law_f_names", defArgs st__law_f_names, defBody st__law_f_names, defScope st__law_f_names, [], []⟩
def fd11 : He.DefD := ⟨("_law_b_some", none), "_law_b_some", "_law_b_some", defArgs st__law_b_some, defBody st__law_b_some, defScope st__law_b_some, [], []⟩
def fd12 : He.DefD := ⟨("_law_b_lot", none), "_law_b_lot", "_law_b_lot", defArgs st__law_b_lot, defBody st__law_b_lot, defScope st__law_b_lot, [], []⟩
def fd13 : He.DefD := ⟨("_law_f_lots", none), "_law_f_lots", "_law_f_lots", defArgs st__law_f_lots, defBody st__law_f_lots, defScope st__law_f_lots, [], []⟩
def fd14 : He.DefD := ⟨("_law_f_met", none), "_law_f_met", "_law_f_met", defArgs st__law_f_met, defBody st__law_f_met, defScope st__law_f_met, [], []⟩
def fd15 : He.DefD := ⟨("is_list", none), "is_list", "is_list", defArgs st_is_list, defBody st_is_list, defScope st_is_list, [], []⟩
def fd16 : He.DefD := ⟨("is_lot", none), "is_lot", "is_lot", defArgs st_is_lot, defBody st_is_lot, defScope st_is_lot, [], []⟩
def fd17 : He.DefD := ⟨("are_right_lots", none), "are_right_lots", "are_right_lots", defArgs st_are_right_lots, defBody st_are_right_lots, defScope st_are_right_lots, [], []⟩
def fd18 : He.DefD := ⟨("is_name", none), "is_name", "is_name", defArgs st_is_name, defBody st_is_name, defScope st_is_name, [], []⟩
def fd19 : He.DefD := ⟨("are_names", none), "are_names", "are_names", defArgs st_are_names, defBody st_are_names, defScope st_are_names, [], []⟩
def fd20 : He.DefD := ⟨("are_lots", none), "are_lots", "are_lots", defArgs st_are_lots, defBody st_are_lots, defScope st_are_lots, [], []⟩
def fd21 : He.DefD := ⟨("_law_same", none), "_law_same", "_law_same", defArgs st__law_same, defBody st__law_same, defScope st__law_same, [], []⟩
def fd22 : He.DefD := ⟨("check_names", none), "check_names", "check_names", defArgs st_check_names, defBody st_check_names, defScope st_check_names, [], []⟩
def fd23 : He.DefD := ⟨("mask_of", none), "mask_of", "mask_of", defArgs st_mask_of, defBody st_mask_of, defScope st_mask_of, [], []⟩
def fd24 : He.DefD := ⟨("Family", some "__init__"), "__init__", "Family.__init__", defArgs st_Family___init__, defBody st_Family___init__, defScope st_Family___init__, [], []⟩
def fd25 : He.DefD := ⟨("_law_very", none), "_law_very", "_law_very", defArgs st__law_very, defBody st__law_very, defScope st__law_very, [], []⟩
def fd26 : He.DefD := ⟨("law", none), "law", "law", defArgs st_law, defBody st_law, defScope st_law, [], []⟩
def fn : List He.DefD := [fd0, fd1, fd2, fd3, fd4, fd5, fd6, fd7, fd8, fd9, fd10, fd11, fd12, fd13, fd14, fd15, fd16, fd17, fd18, fd19, fd20, fd21, fd22, fd23, fd24, fd25, fd26]
def id_BadNames : IniD := ⟨"BadNames", (inCls (top 8) 0), "given", "given"⟩
def id_BadLots : IniD := ⟨"BadLots", (inCls (top 9) 0), "given", "given"⟩
def ini : List IniD := [id_BadNames, id_BadLots]
def isi : List Str := ["Family"]
def tf : List He.Defn := [("law", none)]
abbrev hk : PySem.W.Hook := hookY PR 5 fa fn ini isi tf
def ob (s : PySem.W.SharedT) : AlY := obsY PR 5 fa fn ini isi tf (HandSHeadRun.getT s)
theorem ob_eq (s : PySem.W.SharedT) : ob s = hk.obs s.abs := obsY_eq (HandSHeadRun.getT_eq s)
def ln0 : List PySem.Str := [("_wall" : PySem.Str), ("LETTERS" : PySem.Str), ("SIGNS" : PySem.Str), ("is_list" : PySem.Str), ("is_name" : PySem.Str), ("LotError" : PySem.Str), ("BadNames" : PySem.Str), ("BadLots" : PySem.Str), ("EIGHT" : PySem.Str), ("are_names" : PySem.Str), ("is_lot" : PySem.Str), ("are_right_lots" : PySem.Str), ("are_lots" : PySem.Str), ("check_names" : PySem.Str), ("mask_of" : PySem.Str), ("lot_of" : PySem.Str), ("Family" : PySem.Str), ("_law_spring" : PySem.Str), ("_law_draw" : PySem.Str), ("_law_pick" : PySem.Str), ("_law_mixed" : PySem.Str), ("_law_very" : PySem.Str), ("_law_same" : PySem.Str), ("_law_loose" : PySem.Str), ("_law_b_names" : PySem.Str), ("_law_b_det" : PySem.Str), ("_law_b_bits" : PySem.Str), ("_law_b_shape" : PySem.Str), ("_law_b_drawn" : PySem.Str), ("_law_b_lot" : PySem.Str), ("_law_b_unlike" : PySem.Str), ("_law_b_bar" : PySem.Str), ("_law_b_some" : PySem.Str), ("_law_f_met" : PySem.Str), ("_law_f_name" : PySem.Str), ("_law_f_names" : PySem.Str), ("_law_f_lots" : PySem.Str)]
def ln1 : List PySem.Str := []
def ln2 : List PySem.Str := []
def ln3 : List PySem.Str := []
def lnames : List PySem.Str := ln0 ++ ln1 ++ ln2 ++ ln3
abbrev qv : Program := PySem.W.view (PySem.W.OpenLaw.row RW).prog [41]
theorem run (w : World) : HandSHeadRun.RunEq (PySem.W.OpenLaw.row RW) qv hk ob 20000 lnames w := by
  intro os
  kernel_rfl
/-- the configuration -/
def cfg (K : PySem.W.Frag) : Cfg where
  ca := fun i => match i with
    | 0 => ga K "BadNames"
    | 1 => ga K "BadLots"
    | 2 => ga K "Family"
    | _ => 0
  cf := fun i => match i with
    | 0 => ["given"]
    | 1 => ["given"]
    | 2 => ["own", "masks"]
    | _ => []
  fa := fun _ => 0
  ex := none
  T := [((cT K ("law", none)).2, fun _ _ => ("law.<locals>.<lambda>" : Str))]
  lr := ⟨fun _ _ _ _ => False, fun _ _ _ _ _ _ _ h => h⟩
theorem cf_lt (K : PySem.W.Frag) (c : Nat) : ((cfg K).cf c).length < 1000 := by
  show (match c with
    | 0 => (["given"] : List Str)
    | 1 => (["given"] : List Str)
    | 2 => (["own", "masks"] : List Str)
    | _ => []).length < 1000
  split <;> decide
theorem top_super : (PR.main.scope.names.lookup ("super" : Str)).isSome = false := by kernel_rfl
def qs_BadNames : List Pos := [⟨21, 8, 21, 13⟩, ⟨21, 8, 21, 15⟩, ⟨21, 8, 21, 24⟩, ⟨21, 25, 21, 35⟩, ⟨21, 8, 21, 36⟩, ⟨21, 8, 21, 36⟩, ⟨22, 8, 22, 12⟩, ⟨22, 8, 22, 18⟩, ⟨22, 21, 22, 26⟩, ⟨22, 8, 22, 26⟩]
theorem ex_BadNames {K : PySem.W.Frag} {mg : Str → Option Value} {h : Heap} {w : World} (X : K.In h) (G : h.Ns mainGlobals mg) (c : SaysY PR fa fn ini isi tf h K) : Nonempty (ExcH (cfg K) PR w K mg "BadNames" "given" "given" 0) := by
  obtain ⟨ok, e⟩ := c.ini (d := id_BadNames) (List.mem_of_getElem? (i := 0) rfl)
  exact excH_of (d := id_BadNames) X G ok e (c.d.fact 40 (f := .glo "BadNames") rfl) top_super rfl rfl (free_ok X G (c.d.fact 13 (f := .free "super") rfl)) (m := "no names") (j := 0) (q := fun i => qs_BadNames.getD i default) rfl (by kernel_rfl) (by kernel_rfl) rfl rfl (fun _ _ _ => rfl) (fun _ _ _ _ _ _ _ us hl => match us, hl with | [_, _], _ => rfl) rfl
def qs_BadLots : List Pos := [⟨26, 8, 26, 13⟩, ⟨26, 8, 26, 15⟩, ⟨26, 8, 26, 24⟩, ⟨26, 25, 26, 34⟩, ⟨26, 8, 26, 35⟩, ⟨26, 8, 26, 35⟩, ⟨27, 8, 27, 12⟩, ⟨27, 8, 27, 18⟩, ⟨27, 21, 27, 26⟩, ⟨27, 8, 27, 26⟩]
theorem ex_BadLots {K : PySem.W.Frag} {mg : Str → Option Value} {h : Heap} {w : World} (X : K.In h) (G : h.Ns mainGlobals mg) (c : SaysY PR fa fn ini isi tf h K) : Nonempty (ExcH (cfg K) PR w K mg "BadLots" "given" "given" 1) := by
  obtain ⟨ok, e⟩ := c.ini (d := id_BadLots) (List.mem_of_getElem? (i := 1) rfl)
  exact excH_of (d := id_BadLots) X G ok e (c.d.fact 41 (f := .glo "BadLots") rfl) top_super rfl rfl (free_ok X G (c.d.fact 13 (f := .free "super") rfl)) (m := "no lots") (j := 0) (q := fun i => qs_BadLots.getD i default) rfl (by kernel_rfl) (by kernel_rfl) rfl rfl (fun _ _ _ => rfl) (fun _ _ _ _ _ _ _ us hl => match us, hl with | [_, _], _ => rfl) rfl
theorem head_ok {K : PySem.W.Frag} {mg : Str → Option Value} {h : Heap} {w : World} (X : K.In h) (G : h.Ns mainGlobals mg) (c : SaysY PR fa fn ini isi tf h K) : ∃ hd : Hd (cfg K) PR w K mg, hd.a_law = ga K "law" ∧ hd.c_law = (cT K ("law", none)).1 ∧ hd.P_law = (cT K ("law", none)).2 := by
  obtain ⟨d0, f0⟩ := c.d.def_ 0 (d := fd0) rfl
  obtain ⟨d1, f1⟩ := c.d.def_ 1 (d := fd1) rfl
  obtain ⟨d2, f2⟩ := c.d.def_ 2 (d := fd2) rfl
  obtain ⟨d3, f3⟩ := c.d.def_ 3 (d := fd3) rfl
  obtain ⟨d4, f4⟩ := c.d.def_ 4 (d := fd4) rfl
  obtain ⟨d5, f5⟩ := c.d.def_ 5 (d := fd5) rfl
  obtain ⟨d6, f6⟩ := c.d.def_ 6 (d := fd6) rfl
  obtain ⟨d7, f7⟩ := c.d.def_ 7 (d := fd7) rfl
  obtain ⟨d8, f8⟩ := c.d.def_ 8 (d := fd8) rfl
  obtain ⟨d9, f9⟩ := c.d.def_ 9 (d := fd9) rfl
  obtain ⟨d10, f10⟩ := c.d.def_ 10 (d := fd10) rfl
  obtain ⟨d11, f11⟩ := c.d.def_ 11 (d := fd11) rfl
  obtain ⟨d12, f12⟩ := c.d.def_ 12 (d := fd12) rfl
  obtain ⟨d13, f13⟩ := c.d.def_ 13 (d := fd13) rfl
  obtain ⟨d14, f14⟩ := c.d.def_ 14 (d := fd14) rfl
  obtain ⟨d15, f15⟩ := c.d.def_ 15 (d := fd15) rfl
  obtain ⟨d16, f16⟩ := c.d.def_ 16 (d := fd16) rfl
  obtain ⟨d17, f17⟩ := c.d.def_ 17 (d := fd17) rfl
  obtain ⟨d18, f18⟩ := c.d.def_ 18 (d := fd18) rfl
  obtain ⟨d19, f19⟩ := c.d.def_ 19 (d := fd19) rfl
  obtain ⟨d20, f20⟩ := c.d.def_ 20 (d := fd20) rfl
  obtain ⟨d21, f21⟩ := c.d.def_ 21 (d := fd21) rfl
  obtain ⟨d22, f22⟩ := c.d.def_ 22 (d := fd22) rfl
  obtain ⟨d23, f23⟩ := c.d.def_ 23 (d := fd23) rfl
  obtain ⟨d24, f24⟩ := c.d.def_ 24 (d := fd24) rfl
  obtain ⟨d25, f25⟩ := c.d.def_ 25 (d := fd25) rfl
  obtain ⟨d26, f26⟩ := c.d.def_ 26 (d := fd26) rfl
  obtain ⟨e_BadNames⟩ := ex_BadNames (w := w) X G c
  obtain ⟨e_BadLots⟩ := ex_BadLots (w := w) X G c
  obtain ⟨t_LETTERS, k_LETTERS⟩ := str_ok X G (c.d.fact 51 (f := .str "LETTERS" "abcdefghijklmnopqrstuvwxyz") rfl)
  obtain ⟨t_SIGNS, k_SIGNS⟩ := str_ok X G (c.d.fact 52 (f := .str "SIGNS" "abcdefghijklmnopqrstuvwxyz0123456789") rfl)
  obtain ⟨t_EIGHT, k_EIGHT⟩ := int_ok X G (c.d.fact 53 (f := .int "EIGHT" 8) rfl)
  have no_Family : ∀ f ∈ (["own", "masks"] : List Str), NoAttr K (ga K "Family") f := fun f hf => by
    simp only [List.mem_cons, List.mem_nil_iff, or_false] at hf
    rcases hf with rfl | rfl
    · exact noat_ok (c.d.fact 49 (f := .noat "Family" "own") rfl)
    · exact noat_ok (c.d.fact 50 (f := .noat "Family" "masks") rfl)
  have exm : ∀ j k : Nat, j < 2 → k < 2 → PySem.W.exmOne K (.ref ((cfg K).ca j)) (.ref ((cfg K).ca k)) = some (decide (j = k)) := fun j k hj hk => by
    match j, k, hj, hk with
    | 0, 0, _, _ => exact exm_ok (c.d.fact 42 (f := .exm "BadNames" "BadNames" true) rfl)
    | 0, 1, _, _ => exact exm_ok (c.d.fact 43 (f := .exm "BadNames" "BadLots" false) rfl)
    | 1, 0, _, _ => exact exm_ok (c.d.fact 44 (f := .exm "BadLots" "BadNames" false) rfl)
    | 1, 1, _, _ => exact exm_ok (c.d.fact 45 (f := .exm "BadLots" "BadLots" true) rfl)
    | j + 2, _, hj, _ => omega
    | 0, k + 2, _, hk => omega
    | 1, k + 2, _, hk => omega
  exact ⟨{ lf := cf_lt K, n_len := free_ok X G (c.d.fact 0 (f := .free "len") rfl), n_enumerate := free_ok X G (c.d.fact 1 (f := .free "enumerate") rfl), n_int := free_ok X G (c.d.fact 2 (f := .free "int") rfl), n_list := free_ok X G (c.d.fact 3 (f := .free "list") rfl), n_range := free_ok X G (c.d.fact 4 (f := .free "range") rfl), n_str := free_ok X G (c.d.fact 5 (f := .free "str") rfl), n_sorted := free_ok X G (c.d.fact 6 (f := .free "sorted") rfl), n_isinstance := free_ok X G (c.d.fact 7 (f := .free "isinstance") rfl), n_all := free_ok X G (c.d.fact 8 (f := .free "all") rfl), n_tuple := free_ok X G (c.d.fact 9 (f := .free "tuple") rfl), n_dict := free_ok X G (c.d.fact 10 (f := .free "dict") rfl), n_zip := free_ok X G (c.d.fact 11 (f := .free "zip") rfl), n_bool := free_ok X G (c.d.fact 12 (f := .free "bool") rfl), a__law_spring := fAd K fd0.at_, d__law_spring := d0, f__law_spring := fun_of f0, g__law_spring := glo_ok X G (c.d.fact 14 (f := .glo "_law_spring") rfl), a__law_draw := fAd K fd1.at_, d__law_draw := d1, f__law_draw := fun_of f1, g__law_draw := glo_ok X G (c.d.fact 15 (f := .glo "_law_draw") rfl), a__law_pick := fAd K fd2.at_, d__law_pick := d2, f__law_pick := fun_of f2, g__law_pick := glo_ok X G (c.d.fact 16 (f := .glo "_law_pick") rfl), a__law_b_names := fAd K fd3.at_, d__law_b_names := d3, f__law_b_names := fun_of f3, g__law_b_names := glo_ok X G (c.d.fact 17 (f := .glo "_law_b_names") rfl), a__law_mixed := fAd K fd4.at_, d__law_mixed := d4, f__law_mixed := fun_of f4, g__law_mixed := glo_ok X G (c.d.fact 18 (f := .glo "_law_mixed") rfl), a__law_b_bits := fAd K fd5.at_, d__law_b_bits := d5, f__law_b_bits := fun_of f5, g__law_b_bits := glo_ok X G (c.d.fact 19 (f := .glo "_law_b_bits") rfl), a__law_b_det := fAd K fd6.at_, d__law_b_det := d6, f__law_b_det := fun_of f6, g__law_b_det := glo_ok X G (c.d.fact 20 (f := .glo "_law_b_det") rfl), a__law_b_shape := fAd K fd7.at_, d__law_b_shape := d7, f__law_b_shape := fun_of f7, g__law_b_shape := glo_ok X G (c.d.fact 21 (f := .glo "_law_b_shape") rfl), a__law_b_drawn := fAd K fd8.at_, d__law_b_drawn := d8, f__law_b_drawn := fun_of f8, g__law_b_drawn := glo_ok X G (c.d.fact 22 (f := .glo "_law_b_drawn") rfl), a__law_f_name := fAd K fd9.at_, d__law_f_name := d9, f__law_f_name := fun_of f9, g__law_f_name := glo_ok X G (c.d.fact 23 (f := .glo "_law_f_name") rfl), a__law_f_names := fAd K fd10.at_, d__law_f_names := d10, f__law_f_names := fun_of f10, g__law_f_names := glo_ok X G (c.d.fact 24 (f := .glo "_law_f_names") rfl), a__law_b_some := fAd K fd11.at_, d__law_b_some := d11, f__law_b_some := fun_of f11, g__law_b_some := glo_ok X G (c.d.fact 25 (f := .glo "_law_b_some") rfl), a__law_b_lot := fAd K fd12.at_, d__law_b_lot := d12, f__law_b_lot := fun_of f12, g__law_b_lot := glo_ok X G (c.d.fact 26 (f := .glo "_law_b_lot") rfl), a__law_f_lots := fAd K fd13.at_, d__law_f_lots := d13, f__law_f_lots := fun_of f13, g__law_f_lots := glo_ok X G (c.d.fact 27 (f := .glo "_law_f_lots") rfl), a__law_f_met := fAd K fd14.at_, d__law_f_met := d14, f__law_f_met := fun_of f14, g__law_f_met := glo_ok X G (c.d.fact 28 (f := .glo "_law_f_met") rfl), a_is_list := fAd K fd15.at_, d_is_list := d15, f_is_list := fun_of f15, g_is_list := glo_ok X G (c.d.fact 29 (f := .glo "is_list") rfl), a_is_lot := fAd K fd16.at_, d_is_lot := d16, f_is_lot := fun_of f16, g_is_lot := glo_ok X G (c.d.fact 30 (f := .glo "is_lot") rfl), a_are_right_lots := fAd K fd17.at_, d_are_right_lots := d17, f_are_right_lots := fun_of f17, g_are_right_lots := glo_ok X G (c.d.fact 31 (f := .glo "are_right_lots") rfl), a_is_name := fAd K fd18.at_, d_is_name := d18, f_is_name := fun_of f18, g_is_name := glo_ok X G (c.d.fact 32 (f := .glo "is_name") rfl), a_are_names := fAd K fd19.at_, d_are_names := d19, f_are_names := fun_of f19, g_are_names := glo_ok X G (c.d.fact 33 (f := .glo "are_names") rfl), a_are_lots := fAd K fd20.at_, d_are_lots := d20, f_are_lots := fun_of f20, g_are_lots := glo_ok X G (c.d.fact 34 (f := .glo "are_lots") rfl), a__law_same := fAd K fd21.at_, d__law_same := d21, f__law_same := fun_of f21, g__law_same := glo_ok X G (c.d.fact 35 (f := .glo "_law_same") rfl), a_check_names := fAd K fd22.at_, d_check_names := d22, f_check_names := fun_of f22, g_check_names := glo_ok X G (c.d.fact 36 (f := .glo "check_names") rfl), a_mask_of := fAd K fd23.at_, d_mask_of := d23, f_mask_of := fun_of f23, g_mask_of := glo_ok X G (c.d.fact 37 (f := .glo "mask_of") rfl), a_Family___init__ := fAd K fd24.at_, d_Family___init__ := d24, f_Family___init__ := fun_of f24, a__law_very := fAd K fd25.at_, d__law_very := d25, f__law_very := fun_of f25, g__law_very := glo_ok X G (c.d.fact 38 (f := .glo "_law_very") rfl), a_law := fAd K fd26.at_, d_law := d26, f_law := fun_of f26, c_law := (cT K ("law", none)).1, P_law := (cT K ("law", none)).2, fL_law := funC_of f26, nT_law := List.mem_of_getElem? (i := 0) rfl, nU_law := fun p hp _ => by rcases List.mem_singleton.mp hp with rfl; rfl, g_law := glo_ok X G (c.d.fact 39 (f := .glo "law") rfl), e_BadNames := e_BadNames, e_BadLots := e_BadLots, i_Family := ⟨glo_ok X G (c.d.fact 46 (f := .glo "Family") rfl), ma K (ga K "Family") "__init__", mkr_ok (c.d.fact 48 (f := .mkr "Family") rfl), cls_ok (c.d.fact 47 (f := .cls "Family") rfl), rfl, isiB_ok (c.is _ (List.mem_of_getElem? (i := 0) rfl)) (cls_ok (c.d.fact 47 (f := .cls "Family") rfl)), no_Family⟩, j_Family := rfl, exm := exm, v_LETTERS := .str "abcdefghijklmnopqrstuvwxyz" t_LETTERS, k_LETTERS := k_LETTERS, r_LETTERS := ⟨t_LETTERS, rfl⟩, v_SIGNS := .str "abcdefghijklmnopqrstuvwxyz0123456789" t_SIGNS, k_SIGNS := k_SIGNS, r_SIGNS := ⟨t_SIGNS, rfl⟩, v_EIGHT := .int 8 t_EIGHT, k_EIGHT := k_EIGHT, r_EIGHT := ⟨t_EIGHT, rfl⟩ }, rfl, rfl, rfl⟩
/-- the law from what its mirror does -/
theorem facts {mg : Str → Option Value} {h : Heap} {w : World} {f : Addr} {K : PySem.W.Frag} (X : K.In h) (G : h.Ns mainGlobals mg) (c : SaysY PR fa fn ini isi tf h K) (hf : mg ("law" : Str) = some (.ref f))
    (plain : ∀ (ns : List Int) (d : D), ns.length ≤ 63 → (∀ z ∈ ns, Builtin.Int.intBits z ≤ 1048576) → scrD d ns → ∃ s', F_law ⟨[], 0⟩ [d] = .ok (.bl true) s') : LamX.LawAtS RW w K (L2.CX PR w) 21 63 "script" mg f h := by
  obtain ⟨hd, ha, hc_law, hP_law⟩ := head_ok (w := w) X G c
  have e : some (.ref f) = some (Value.ref hd.a_law) := hf.symm.trans hd.g_law
  cases e
  refine lawAt_of (C := cfg K) X c rfl (bi_law hd) plain (fun base _ _ tb => ?_) (fun s u => fun_bindsTo (ps := ["script"]) hd.f_law (fun _ _ _ _ _ _ us hl => match us, hl with | [_], _ => rfl) s [u] rfl)
  exact ok_law hd (by rw [hc_law, hP_law]; exact tb _ (List.mem_of_getElem? (i := 0) rfl))
end K02
open PySem PySem.W PySem.Calls PyProof.Rows
theorem K02.holds (plain : ∀ (ns : List Int) (d : DV.D), ns.length ≤ 63 → (∀ z ∈ ns, Builtin.Int.intBits z ≤ 1048576) → DV.scrD d ns → ∃ s', K02.F_law ⟨[], 0⟩ [d] = .ok (.bl true) s') : PySem.Challenge.rw_oneortwo_k02_whole_names_and_lots_refuse.Holds := by
  w_on; o_law
  refine HandSHeadRun.head_any (r := OpenLaw.row PySem.Challenge.rw_oneortwo_k02_whole_names_and_lots_refuse) (q := K02.qv) (H := K02.hk) (ob := K02.ob) (M := 20000) (loose := K02.lnames) (d := HandSHeadRun.topDef (OpenLaw.row PySem.Challenge.rw_oneortwo_k02_whole_names_and_lots_refuse).prog 41) (kwd := []) K02.ob_eq
    (by kernel_rfl) (fun s => by kernel_rfl) K02.run (by kernel_rfl) (by kernel_rfl) (by kernel_rfl) (by rfl) (by first | assumption | decide +kernel) (by decide +kernel) ⟨rfl, rfl, rfl, rfl, rfl, by decide +kernel⟩ ?hw ?hc
  case hw => w_witness2
  case hc =>
    refine LamX.walk_ofTsE (l := PySem.Challenge.rw_oneortwo_k02_whole_names_and_lots_refuse) (n := 63) (k := 21) (x := "script") (CX := fun w => L2.CX K02.PR w) rfl (by decide) (by kernel_rfl) ⟨rfl, by decide, by decide⟩ ?F (fun _ _ _ _ _ z => DV.cx_empty z)
    intro w mg fa h Y G hmg0
    obtain ⟨K, KX, c⟩ := Y
    have hmg : mg ("law" : PySem.Str) = some (.ref fa) := by
      have e : (HandSHeadRun.topDef (OpenLaw.row PySem.Challenge.rw_oneortwo_k02_whole_names_and_lots_refuse).prog 41).name = ("law" : PySem.Str) := by kernel_rfl
      rw [← e]
      exact hmg0
    exact ⟨K, KX, K02.facts KX G c hmg plain⟩
end
section
set_option Elab.async false
set_option linter.all false
set_option maxRecDepth 100000
set_option maxHeartbeats 2000000
/-! PC: running mirrors by rewriting; only what stands first is rewritten. RUN is the rules in one. -/
namespace DV
open PySem PySem.Spec PyProof.Rows
/-- an equation that is used by its proof, not by unfolding -/
theorem nd {α : Type} {a b : α} (h : a = b) : a = b := h
def Fl.andThen (r : Fl) (g : Sx) : Fl := match r with
  | .next e s => g e s
  | r => r
def cIf {α : Type} (b : Bool) (x y : α) : α := if b = true then x else y
def gAsg (o : Out Env) : Fl := match o with
  | .ok e' s' => .next e' s'
  | _ => .stuck
/-- the call of a function of data, nothing raised -/
def Out.noX (o : Out D) : Out D := match o with
  | .ok d s => .ok d s
  | _ => .stuck
/-- a test's value -/
def Out.bv (o : Out D) : Out Bool := match o with
  | .ok x s => (match x.strip with
    | .bl b => .ok b s
    | _ => .stuck)
  | .exc c vs s => .exc c vs s
  | .stuck => .stuck
section
variable {α β : Type}
theorem bind_cong {o o' : Out α} {f : α → S → Out β} (h : o = o') : o.bind f = o'.bind f := by rw [h]
theorem of_cong {o o' : Option α} {s : S} (h : o = o') : Out.of o s = Out.of o' s := by rw [h]
theorem fl_cong {o o' : Out α} {e : Env} {k : α → S → Fl} (h : o = o') : o.fl e k = o'.fl e k := by rw [h]
theorem then_cong {r r' : Fl} {g : Sx} (h : r = r') : r.andThen g = r'.andThen g := by rw [h]
theorem cIf_cong {b b' : Bool} {x y : α} (h : b = b') : cIf b x y = cIf b' x y := by rw [h]
theorem gAsg_cong {o o' : Out Env} (h : o = o') : gAsg o = gAsg o' := by rw [h]
theorem noX_cong {o o' : Out D} (h : o = o') : o.noX = o'.noX := by rw [h]
theorem bv_cong {o o' : Out D} (h : o = o') : o.bv = o'.bv := by rw [h]
theorem lst_cong {o o' : Out (List D)} (h : o = o') : o.lst = o'.lst := by rw [h]
theorem loop_cong {r r' : Fl} {k : Env → S → Fl} (h : r = r') : r.loop k = r'.loop k := by rw [h]
theorem endDef_cong {s : S} {r r' : Fl} (h : r = r') : endDef s r = endDef s r' := by rw [h]
theorem endDefO_cong {s : S} {r r' : Fl} (h : r = r') : endDefO s r = endDefO s r' := by rw [h]
theorem bind_ok {a : α} {s : S} {f : α → S → Out β} : (Out.ok a s).bind f = f a s := nd rfl
theorem bind_exc {c : Nat} {vs : List D} {s : S} {f : α → S → Out β} : (Out.exc c vs s : Out α).bind f = .exc c vs s := nd rfl
theorem of_some {a : α} {s : S} : Out.of (some a) s = .ok a s := nd rfl
theorem fl_ok {a : α} {s : S} {e : Env} {k : α → S → Fl} : (Out.ok a s).fl e k = k a s := nd rfl
theorem fl_exc {c : Nat} {vs : List D} {s : S} {e : Env} {k : α → S → Fl} : (Out.exc c vs s : Out α).fl e k = .exc c vs e s := nd rfl
theorem then_next {e : Env} {s : S} {g : Sx} : (Fl.next e s).andThen g = g e s := nd rfl
theorem then_ret {d : D} {s : S} {g : Sx} : (Fl.ret d s).andThen g = .ret d s := nd rfl
theorem then_brk {e : Env} {s : S} {g : Sx} : (Fl.brk e s).andThen g = .brk e s := nd rfl
theorem then_cont {e : Env} {s : S} {g : Sx} : (Fl.cont e s).andThen g = .cont e s := nd rfl
theorem then_exc {c : Nat} {vs : List D} {e : Env} {s : S} {g : Sx} : (Fl.exc c vs e s).andThen g = .exc c vs e s := nd rfl
theorem cIf_t {x y : α} : cIf true x y = x := nd rfl
theorem cIf_f {x y : α} : cIf false x y = y := nd rfl
theorem bv_bl {b : Bool} {s : S} : (Out.ok (.bl b) s).bv = .ok b s := nd rfl
theorem bv_exc {c : Nat} {vs : List D} {s : S} : (Out.exc c vs s : Out D).bv = .exc c vs s := nd rfl
theorem noXo_ok {d : D} {s : S} : (Out.ok d s).noX = .ok d s := nd rfl
theorem lst_ok {xs : List D} {s : S} : (Out.ok xs s).lst = .ok xs s := nd rfl
theorem end_ret {s s' : S} {d : D} : endDef s (.ret d s') = fin s d s' := nd rfl
theorem end_next {s s' : S} {e : Env} : endDef s (.next e s') = .ok .non (back s s') := nd rfl
end
section
variable {e : Env} {s : S} {fa fb fc : Ex} {f g : Sx} {t u : Tx} {d x y : D} {b : Bool}
theorem r_bin {h : S → D → D → Option D} : xBin h fa fb e s = (fa e s).bind fun x s => (fb e s).bind fun y s => Out.of (h s x y) s := nd rfl
theorem r_un {h : S → D → Option D} : xUn h fa e s = (fa e s).bind fun x s => Out.of (h s x) s := nd rfl
theorem r_C : xC d e s = .ok d s := nd rfl
theorem r_val : tVal fa e s = (fa e s).bv := by
  show (fa e s).bind _ = _
  cases fa e s <;> rfl
theorem r_tr : tTr fa e s = (fa e s).bind fun x s => Out.of (truD s x) s := nd rfl
theorem r_all : tAll e s = Out.ok true s := nd rfl
theorem r_not : tNot t e s = (t e s).bind fun b s => .ok (!b) s := nd rfl
theorem r_and : tAnd t u e s = (t e s).bind fun b s => cIf b (u e s) (.ok false s) := nd rfl
theorem r_or : tOr t u e s = (t e s).bind fun b s => cIf b (.ok true s) (u e s) := nd rfl
theorem r_if : xIf t fa fb e s = (t e s).bind fun b s => cIf b (fa e s) (fb e s) := nd rfl
theorem r_andT : xAndT fa fb e s = (fa e s).bind fun x s => (Out.of (truD s x) s).bind fun b s => cIf b (fb e s) (Out.ok x s) := by
  show (fa e s).bind _ = _
  congr 1
  funext x s
  show (match truD s x with | some true => fb e s | some false => Out.ok x s | none => Out.stuck) = _
  cases truD s x with
  | none => rfl
  | some k => cases k <;> rfl
theorem r_orT : xOrT fa fb e s = (fa e s).bind fun x s => (Out.of (truD s x) s).bind fun b s => cIf b (Out.ok x s) (fb e s) := by
  show (fa e s).bind _ = _
  congr 1
  funext x s
  show (match truD s x with | some true => Out.ok x s | some false => fb e s | none => Out.stuck) = _
  cases truD s x with
  | none => rfl
  | some k => cases k <;> rfl
theorem r_notT : xNotT fa e s = (fa e s).bind fun x s => (Out.of (truD s x) s).bind fun b s => .ok (.bl (!b)) s := by
  show (fa e s).bind _ = _
  congr 1
  funext x s
  show (match truD s x with | some k => Out.ok (D.bl (!k)) s | none => Out.stuck) = _
  cases truD s x <;> rfl
def Out.ch (o : Out D) (k : S → Out D) : Out D := match o with
  | .ok z s => (match z.strip with
    | .bl true => k s
    | .bl false => .ok (.bl false) s
    | _ => .stuck)
  | .exc c vs s => .exc c vs s
  | .stuck => .stuck
theorem ch_cong {o o' : Out D} {k : S → Out D} (h : o = o') : o.ch k = o'.ch k := by rw [h]
theorem ch_bl {b : Bool} {k : S → Out D} : (Out.ok (.bl b) s).ch k = cIf b (k s) (.ok (.bl false) s) := by cases b <;> rfl
theorem r_chain {h h' : S → D → D → Option D} : xChain h h' fa fb fc e s = (fa e s).bind fun x s => (fb e s).bind fun y s => (Out.of (h s x y) s).ch fun s => (fc e s).bind fun w s => Out.of (h' s y w) s := by
  show (fa e s).bind _ = _
  congr 1
  funext x s
  show (fb e s).bind _ = _
  congr 1
  funext y s
  cases h s x y with
  | none => rfl
  | some z => rfl
theorem r_sIf : sIf t f g e s = (t e s).fl e fun b s => cIf b (f e s) (g e s) := nd rfl
theorem r_seq : sSeq f g e s = (f e s).andThen g := nd rfl
theorem r_next : sNext e s = .next e s := nd rfl
theorem r_ret : sRet fa e s = (fa e s).fl e fun d s => .ret d s := nd rfl
theorem r_retN : sRetN e s = .ret .non s := nd rfl
theorem r_cont : sCont e s = .cont e s := nd rfl
theorem r_brk : sBrk e s = .brk e s := nd rfl
theorem r_expr : sExpr fa e s = (fa e s).fl e fun _ s => .next e s := nd rfl
theorem r_raise {c : Nat} : sRaise c fa e s = (fa e s).fl e fun d s => .exc c [d] e s := nd rfl
theorem r_nil : aNil e s = .ok [] s := nd rfl
theorem r_cons {fs : Ax} : aCons fa fs e s = (fa e s).bind fun d s => (fs e s).bind fun ds s => .ok (d :: ds) s := nd rfl
theorem r_call {F : S → List D → Out D} {fs : Ax} : xCall F fs e s = (fs e s).bind fun ds s => F s ds := nd rfl
theorem r_asg {h : Gx} : sAsg fa h e s = (fa e s).fl e fun d s => gAsg (h d e s) := nd rfl
theorem r_gVar {i : Nat} : gVar i d e s = .ok (e.set i (some d)) s := nd rfl
theorem r_gTag {i : Nat} : gTag i d e s = .ok (e.set i (some (.tag s.tg d))) ⟨s.mo, s.tg + 1⟩ := nd rfl
theorem r_gAsg {e' : Env} : gAsg (.ok e' s) = .next e' s := nd rfl
theorem r_gSet : gSet fa fb d e s = (fa e s).bind fun o s => (fb e s).bind fun i s => (Out.of (mSet s o i d) s).bind fun s' _ => .ok e s' := by
  show (fa e s).bind _ = _
  congr 1
  funext o s
  show (fb e s).bind _ = _
  congr 1
  funext i s
  cases mSet s o i d <;> rfl
theorem r_gsNil : gsNil [] e s = .ok e s := nd rfl
theorem r_gsCons {h : Gx} {r : List D → Env → S → Out Env} {ds : List D} : gsCons h r (d :: ds) e s = (h d e s).bind fun e' s' => r ds e' s' := nd rfl
theorem r_gUnpT {n : Nat} {r : List D → Env → S → Out Env} {xs : List D} (h : xs.length = n) : gUnp n r (.tup xs) e s = r xs e s := if_pos h
theorem r_gUnpL {n : Nat} {r : List D → Env → S → Out Env} {xs : List D} (h : xs.length = n) : gUnp n r (.lst xs) e s = r xs e s := if_pos h
theorem r_gUnp2 {r : List D → Env → S → Out Env} : gUnp 2 r (.tup [x, y]) e s = r [x, y] e s := nd rfl
theorem r_gUnp2L {r : List D → Env → S → Out Env} : gUnp 2 r (.lst [x, y]) e s = r [x, y] e s := nd rfl
theorem r_par {i j : Nat} {a : Ax} : sPar i j a e s = (a e s).fl e fun ds s => match ds with
  | [x, y] => .next ((e.set i (some x)).set j (some y)) s
  | _ => .stuck := nd rfl
theorem r_par3 {i j l : Nat} {a : Ax} : sPar3 i j l a e s = (a e s).fl e fun ds s => match ds with
  | [x, y, z] => .next (((e.set i (some x)).set j (some y)).set l (some z)) s
  | _ => .stuck := nd rfl
theorem r_var0 {x : Option D} {r : Env} : xVar 0 (some d :: r) s = .ok d s := nd rfl
theorem r_varS {x : Option D} {r : Env} {i : Nat} : xVar (i + 1) (x :: r) s = xVar i r s := nd rfl
theorem r_noX {F : S → List D → Out D} {ds : List D} : noX F s ds = (F s ds).noX := nd rfl
theorem r_f1 {h : S → D → Option D} : f1 h s [d] = Out.of (h s d) s := nd rfl
theorem r_fz {a : Ax} : xFz a e s = (a e s).bind fun ds s => .ok (.lst ds) s := nd rfl
theorem r_own {a : Ax} : xOwn a e s = (a e s).bind fun ds s => cIf (D.lows 0 0 ds) (.ok (.ref s.mo.length) (s.own (.lst ds))) .stuck := nd rfl
theorem r_aLst {a : Ax} : aLst a e s = (a e s).bind fun xs s => cIf (decide (xs.length ≤ sizeLine)) (.ok xs s) .stuck := by
  show (a e s).bind _ = _
  congr 1
  funext xs s
  unfold cIf
  simp only [decide_eq_true_eq]
theorem r_tup {a : Ax} : xTup a e s = (a e s).bind fun xs s => cIf (decide (xs.length ≤ sizeLine)) (.ok (.tup xs) s) .stuck := by
  show (a e s).bind _ = _
  congr 1
  funext xs s
  unfold cIf
  simp only [decide_eq_true_eq]
theorem r_callN {F : S → List D → Option (List D)} {a : Ax} : aCallN F a e s = (a e s).bind fun ds s => Out.of (F s ds) s := nd rfl
theorem r_fn1 {h : S → D → Option (List D)} : fn1 h s [d] = h s d := nd rfl
theorem r_bm {chk : S → D → Bool} {m : S → D → List D → Out D} {fo : Ex} {a : Ax} : xBm chk m fo a e s = (fo e s).bind fun x s => cIf (chk s x) ((a e s).bind fun ys s => (m s x ys).noX) .stuck := nd rfl
theorem r_for {ix : Ix} {h : Gx} {body : Sx} : sFor ix h body e s = (ix e s).fl e fun w s => forRun h body w w.items e s := nd rfl
theorem r_while {n : Nat} : sWhile n t f e s = whileRun t f n e s := nd rfl
theorem r_comp {ix : Ix} {c : CT} {vs : List Nat} : aComp ix c t fa vs e s = (ix e s).bind fun w s => (compRun c t fa vs w e w.items [] s).lst := nd rfl
theorem r_xDK : xDK e s = .ok (.ref s.mo.length) (s.own (.dK [] [])) := nd rfl
theorem r_xDT : xDT e s = .ok (.ref s.mo.length) (s.own (.dT [] [])) := nd rfl
theorem r_xD0 : xD0 e s = .ok (.dct [] []) s := nd rfl
theorem r_pNo : pNo e s = .ok none s := nd rfl
theorem r_pAt : pAt fa e s = (fa e s).bind fun x s => match view s x with
  | .int i => .ok (some i) s
  | _ => .stuck := nd rfl
theorem r_slice {lo hi : Px} : xSlice fa lo hi e s = (fa e s).bind fun x s => (lo e s).bind fun l s => (hi e s).bind fun h s => Out.of (sliceD (view s x) l h) s := nd rfl
theorem r_seqIx : ixSeq fa e s = (fa e s).bind fun d s => match view s d with
  | .lst xs => .ok (wkD d xs) s
  | .tup xs => .ok ⟨xs, []⟩ s
  | .kl xs => .ok ⟨xs, []⟩ s
  | .scr ns => .ok ⟨ns.map .int, []⟩ s
  | .str z => .ok ⟨signsD z, []⟩ s
  | _ => .stuck := nd rfl
theorem r_enumIx {a : Ax} : ixEnum a e s = (a e s).bind fun ds s => match ds with
  | [d] => (match lsD s d with
    | some x => .ok ⟨enumD 0 x.1, x.2⟩ s
    | none => .stuck)
  | _ => .stuck := nd rfl
theorem r_zipIx {a : Ax} : ixZip a e s = (a e s).bind fun ds s => match ds with
  | [d, d'] => zipIx s d d'
  | _ => .stuck := nd rfl
theorem r_callK {n m : Nat} {perm : List Nat} {F : S → List D → Out D} {a k : Ax} : xCallK n m perm F a k e s = (a e s).bind fun xs s => (k e s).bind fun zs s => if xs.length = n ∧ zs.length = m then F s (kwG perm xs zs) else .stuck := nd rfl
theorem r_aug {i : Nat} {h : S → D → D → Option D} : sAug i h fa e s = match e[i]? with
  | some (some d) => (fa e s).fl e fun d1 s1 => (match h s1 d d1 with
    | some z => .next (e.set i (some z)) s1
    | none => .stuck)
  | _ => .stuck := nd rfl
end
/-! ### views of plain data -/
theorem v_non {s : S} : view s .non = .non := nd rfl
theorem v_bl {s : S} {b : Bool} : view s (.bl b) = .bl b := nd rfl
theorem v_int {s : S} {n : Int} : view s (.int n) = .int n := nd rfl
theorem v_str {s : S} {x : Str} : view s (.str x) = .str x := nd rfl
theorem v_lst {s : S} {xs : List D} : view s (.lst xs) = .lst xs := nd rfl
theorem v_tup {s : S} {xs : List D} : view s (.tup xs) = .tup xs := nd rfl
theorem v_dct {s : S} {ks vs : List D} : view s (.dct ks vs) = .dct ks vs := nd rfl
theorem v_tag {s : S} {i : Nat} {d : D} : view s (.tag i d) = view s d := nd rfl
theorem w_lst {xs : List D} : wkD (.lst xs) xs = ⟨xs, []⟩ := nd rfl
/-! ### truth -/
theorem t_bl {s : S} {b : Bool} : truD s (.bl b) = some b := nd rfl
theorem t_int {s : S} {i : Int} : truD s (.int i) = some (i != 0) := nd rfl
theorem t_lst {s : S} {xs : List D} : truD s (.lst xs) = some (!xs.isEmpty) := nd rfl
theorem t_tup {s : S} {xs : List D} : truD s (.tup xs) = some (!xs.isEmpty) := nd rfl
theorem t_non {s : S} : truD s .non = some false := nd rfl
/-! ### operations -/
theorem o_addI {s : S} {a b : Int} : gAdd s (.int a) (.int b) = some (.int (a + b)) := nd rfl
theorem o_intI {s : S} {a b : Int} {g : Int → Int → Option D} : gInt g s (.int a) (.int b) = g a b := nd rfl
theorem o_subI {a b : Int} : nSub a b = some (.int (a - b)) := nd rfl
theorem o_mulI {s : S} {a b : Int} : gMul s (.int a) (.int b) = nMul a b := nd rfl
theorem o_int1 {s : S} {a : Int} : gInt1 s (.int a) = some (.int a) := nd rfl
theorem o_negI {s : S} {a : Int} : gNeg s (.int a) = some (.int (-a)) := nd rfl
theorem o_ltI {s : S} {a b : Int} : gLt s (.int a) (.int b) = some (.bl (decide (a < b))) := nd rfl
theorem o_leI {s : S} {a b : Int} : gLe s (.int a) (.int b) = some (.bl (decide (a ≤ b))) := nd rfl
theorem o_gtI {s : S} {a b : Int} : gGt s (.int a) (.int b) = some (.bl (decide (b < a))) := nd rfl
theorem o_geI {s : S} {a b : Int} : gGe s (.int a) (.int b) = some (.bl (decide (b ≤ a))) := nd rfl
theorem o_ltS {s : S} {a b : Str} : gLt s (.str a) (.str b) = some (.bl (decide (a.cps.toList < b.cps.toList))) := nd rfl
theorem o_eqI {s : S} {a b : Int} : gEq s (.int a) (.int b) = some (.bl (decide (a = b))) := nd rfl
theorem o_neI {s : S} {a b : Int} : gNe s (.int a) (.int b) = some (.bl (!decide (a = b))) := nd rfl
theorem o_eqS {s : S} {a b : Str} : gEq s (.str a) (.str b) = some (.bl (decide (a = b))) := nd rfl
theorem o_neS {s : S} {a b : Str} : gNe s (.str a) (.str b) = some (.bl (!decide (a = b))) := nd rfl
theorem o_eqB {s : S} {a b : Bool} : gEq s (.bl a) (.bl b) = some (.bl (decide (a = b))) := by cases a <;> cases b <;> rfl
theorem o_neB {s : S} {a b : Bool} : gNe s (.bl a) (.bl b) = some (.bl (!decide (a = b))) := by cases a <;> cases b <;> rfl
theorem o_lenL {s : S} {xs : List D} : gLen s (.lst xs) = some (.int xs.length) := nd rfl
theorem o_lenT {s : S} {xs : List D} : gLen s (.tup xs) = some (.int xs.length) := nd rfl
theorem o_lenD {s : S} {ks vs : List D} : gLen s (.dct ks vs) = some (.int ks.length) := nd rfl
theorem o_tupL {s : S} {xs : List D} : gTuple s (.lst xs) = some (.tup xs) := nd rfl
theorem o_tupT {s : S} {xs : List D} : gTuple s (.tup xs) = some (.tup xs) := nd rfl
theorem o_listL {s : S} {xs : List D} : gList s (.lst xs) = some xs := nd rfl
theorem o_listT {s : S} {xs : List D} : gList s (.tup xs) = some xs := nd rfl
theorem o_catL {s : S} {xs ys : List D} (h : xs.length + ys.length ≤ sizeLine) : gAdd s (.lst xs) (.lst ys) = some (.lst (xs ++ ys)) := if_pos h
theorem o_ixL {s : S} {xs : List D} {n : Int} : gIx s (.lst xs) (.int n) = L2.atI xs n := nd rfl
theorem o_ixT {s : S} {xs : List D} {n : Int} : gIx s (.tup xs) (.int n) = L2.atI xs n := nd rfl
theorem e_isB {s : S} {a b : Bool} : gIsB s (.bl a) (.bl b) = some (.bl (decide (a = b))) := nd rfl
theorem end_retO {s s' : S} {d : D} : endDefO s (.ret d s') = finO s d s' := nd rfl
theorem ls_lst {s : S} {xs : List D} : lsD s (.lst xs) = some (xs, []) := nd rfl
theorem r_var {i : Nat} {e : Env} {s : S} : xVar i e s = match e[i]? with
  | some (some d) => .ok d s
  | _ => .stuck := nd rfl
theorem g_0 {x : Option D} {xs : Env} : (x :: xs)[0]? = some x := List.getElem?_cons_zero
theorem g_S {x : Option D} {xs : Env} {n : Nat} : (x :: xs)[n + 1]? = xs[n]? := List.getElem?_cons_succ
theorem s_0 {x y : Option D} {xs : Env} : List.set (x :: xs) 0 y = y :: xs := List.set_cons_zero
theorem s_S {x y : Option D} {xs : Env} {n : Nat} : List.set (x :: xs) (n + 1) y = x :: List.set xs n y := List.set_cons_succ
theorem wp_0 {e : Env} : wipeE e [] = e := nd rfl
theorem wp_S {e : Env} {v : Nat} {vs : List Nat} : wipeE e (v :: vs) = (wipeE e vs).set v none := nd rfl
theorem RUN : (type_of% @bind_ok) ∧ (type_of% @bind_exc) ∧ (type_of% @of_some) ∧ (type_of% @fl_ok) ∧ (type_of% @fl_exc) ∧ (type_of% @then_next) ∧ (type_of% @then_ret) ∧ (type_of% @then_brk) ∧ (type_of% @then_cont) ∧ (type_of% @then_exc) ∧ (type_of% @cIf_t) ∧ (type_of% @cIf_f) ∧ (type_of% @bv_bl) ∧ (type_of% @bv_exc) ∧ (type_of% @noXo_ok) ∧ (type_of% @lst_ok) ∧ (type_of% @end_ret) ∧ (type_of% @r_var) ∧ (type_of% @g_0) ∧ (type_of% @g_S) ∧ (type_of% @s_0) ∧ (type_of% @s_S) ∧ (type_of% @wp_0) ∧ (type_of% @wp_S) ∧  (type_of% @end_retO) ∧ (type_of% @ls_lst) ∧ (type_of% @end_next) ∧ (type_of% @r_bin) ∧ (type_of% @r_un) ∧ (type_of% @r_C) ∧ (type_of% @r_val) ∧ (type_of% @r_tr) ∧ (type_of% @r_all) ∧ (type_of% @r_not) ∧ (type_of% @r_and) ∧ (type_of% @r_or) ∧ (type_of% @r_if) ∧ (type_of% @r_andT) ∧ (type_of% @r_orT) ∧ (type_of% @r_notT) ∧ (type_of% @ch_bl) ∧ (type_of% @r_chain) ∧ (type_of% @r_sIf) ∧ (type_of% @r_seq) ∧ (type_of% @r_next) ∧ (type_of% @r_ret) ∧ (type_of% @r_retN) ∧ (type_of% @r_cont) ∧ (type_of% @r_brk) ∧ (type_of% @r_expr) ∧ (type_of% @r_raise) ∧ (type_of% @r_nil) ∧ (type_of% @r_cons) ∧ (type_of% @r_call) ∧ (type_of% @r_asg) ∧ (type_of% @r_gVar) ∧ (type_of% @r_gTag) ∧ (type_of% @r_gAsg) ∧ (type_of% @r_gSet) ∧ (type_of% @r_gsNil) ∧ (type_of% @r_gsCons) ∧ (type_of% @r_gUnp2) ∧ (type_of% @r_gUnp2L) ∧ (type_of% @r_par) ∧ (type_of% @r_par3) ∧ (type_of% @r_noX) ∧ (type_of% @r_f1) ∧ (type_of% @r_fz) ∧ (type_of% @r_own) ∧ (type_of% @r_aLst) ∧ (type_of% @r_tup) ∧ (type_of% @r_callN) ∧ (type_of% @r_fn1) ∧ (type_of% @r_bm) ∧ (type_of% @r_for) ∧ (type_of% @r_while) ∧ (type_of% @r_xDK) ∧ (type_of% @r_xDT) ∧ (type_of% @r_xD0) ∧ (type_of% @r_pNo) ∧ (type_of% @r_pAt) ∧ (type_of% @r_slice) ∧ (type_of% @r_seqIx) ∧ (type_of% @r_enumIx) ∧ (type_of% @r_zipIx) ∧ (type_of% @r_callK) ∧ (type_of% @r_aug) ∧ (type_of% @v_non) ∧ (type_of% @v_bl) ∧ (type_of% @v_int) ∧ (type_of% @v_str) ∧ (type_of% @v_lst) ∧ (type_of% @v_tup) ∧ (type_of% @v_dct) ∧ (type_of% @v_tag) ∧ (type_of% @w_lst) ∧ (type_of% @t_bl) ∧ (type_of% @t_int) ∧ (type_of% @t_lst) ∧ (type_of% @t_tup) ∧ (type_of% @t_non) ∧ (type_of% @o_addI) ∧ (type_of% @o_intI) ∧ (type_of% @o_subI) ∧ (type_of% @o_mulI) ∧ (type_of% @o_int1) ∧ (type_of% @o_negI) ∧ (type_of% @o_ltI) ∧ (type_of% @o_leI) ∧ (type_of% @o_gtI) ∧ (type_of% @o_geI) ∧ (type_of% @o_ltS) ∧ (type_of% @o_eqI) ∧ (type_of% @o_neI) ∧ (type_of% @o_eqS) ∧ (type_of% @o_neS) ∧ (type_of% @o_eqB) ∧ (type_of% @o_neB) ∧ (type_of% @o_lenL) ∧ (type_of% @o_lenT) ∧ (type_of% @o_lenD) ∧ (type_of% @o_tupL) ∧ (type_of% @o_tupT) ∧ (type_of% @o_listL) ∧ (type_of% @o_listT) ∧ (type_of% @o_ixL) ∧ (type_of% @o_ixT) ∧ (type_of% @e_isB) := ⟨@bind_ok, @bind_exc, @of_some, @fl_ok, @fl_exc, @then_next, @then_ret, @then_brk, @then_cont, @then_exc, @cIf_t, @cIf_f, @bv_bl, @bv_exc, @noXo_ok, @lst_ok, @end_ret, @r_var, @g_0, @g_S, @s_0, @s_S, @wp_0, @wp_S, @end_retO, @ls_lst, @end_next, @r_bin, @r_un, @r_C, @r_val, @r_tr, @r_all, @r_not, @r_and, @r_or, @r_if, @r_andT, @r_orT, @r_notT, @ch_bl, @r_chain, @r_sIf, @r_seq, @r_next, @r_ret, @r_retN, @r_cont, @r_brk, @r_expr, @r_raise, @r_nil, @r_cons, @r_call, @r_asg, @r_gVar, @r_gTag, @r_gAsg, @r_gSet, @r_gsNil, @r_gsCons, @r_gUnp2, @r_gUnp2L, @r_par, @r_par3, @r_noX, @r_f1, @r_fz, @r_own, @r_aLst, @r_tup, @r_callN, @r_fn1, @r_bm, @r_for, @r_while, @r_xDK, @r_xDT, @r_xD0, @r_pNo, @r_pAt, @r_slice, @r_seqIx, @r_enumIx, @r_zipIx, @r_callK, @r_aug, @v_non, @v_bl, @v_int, @v_str, @v_lst, @v_tup, @v_dct, @v_tag, @w_lst, @t_bl, @t_int, @t_lst, @t_tup, @t_non, @o_addI, @o_intI, @o_subI, @o_mulI, @o_int1, @o_negI, @o_ltI, @o_leI, @o_gtI, @o_geI, @o_ltS, @o_eqI, @o_neI, @o_eqS, @o_neS, @o_eqB, @o_neB, @o_lenL, @o_lenT, @o_lenD, @o_tupL, @o_tupT, @o_listL, @o_listT, @o_ixL, @o_ixT, @e_isB⟩
end DV
end
section
set_option Elab.async false
set_option linter.all false
set_option maxRecDepth 100000
set_option maxHeartbeats 2000000
/-! PD: objects that change, seen from the plain side; loops and comprehensions by invariants; values. -/
namespace DV
open PySem PySem.Spec PyProof.Rows
/-! ### own lists -/
section
variable {s : S} {i j : Nat} {xs : List D} {o : MO}
theorem view_refL (h : s.mo[i]? = some (.lst xs)) : view s (.ref i) = .lst xs := by
  show (match s.mo[i]? with
    | some (.lst xs) => D.lst xs
    | some (.dK ks vs) => .dct ks vs
    | some (.dT ks vs) => .dct ks vs
    | some (.ins c vs) => .inst c vs
    | _ => .ref i) = _
  rw [h]
theorem view_refK {ks vs : List D} (h : s.mo[i]? = some (.dK ks vs)) : view s (.ref i) = .dct ks vs := by
  show (match s.mo[i]? with
    | some (.lst xs) => D.lst xs
    | some (.dK ks vs) => .dct ks vs
    | some (.dT ks vs) => .dct ks vs
    | some (.ins c vs) => .inst c vs
    | _ => .ref i) = _
  rw [h]
theorem view_refI {c : Nat} {vs : List D} (h : s.mo[i]? = some (.ins c vs)) : view s (.ref i) = .inst c vs := by
  show (match s.mo[i]? with
    | some (.lst xs) => D.lst xs
    | some (.dK ks vs) => .dct ks vs
    | some (.dT ks vs) => .dct ks vs
    | some (.ins c vs) => .inst c vs
    | _ => .ref i) = _
  rw [h]
theorem dct_refL (h : s.mo[i]? = some (.lst xs)) : dctD s (.ref i) = none := by
  show (match s.mo[i]? with
    | some (.dK ks vs) => some (ks, vs, false)
    | some (.dT ks vs) => some (ks, vs, true)
    | _ => none) = _
  rw [h]
theorem dct_refK {ks vs : List D} (h : s.mo[i]? = some (.dK ks vs)) : dctD s (.ref i) = some (ks, vs, false) := by
  show (match s.mo[i]? with
    | some (.dK ks vs) => some (ks, vs, false)
    | some (.dT ks vs) => some (ks, vs, true)
    | _ => none) = _
  rw [h]
theorem dct_refT {ks vs : List D} (h : s.mo[i]? = some (.dT ks vs)) : dctD s (.ref i) = some (ks, vs, true) := by
  show (match s.mo[i]? with
    | some (.dK ks vs) => some (ks, vs, false)
    | some (.dT ks vs) => some (ks, vs, true)
    | _ => none) = _
  rw [h]
theorem ix_refL {n : Int} (h : s.mo[i]? = some (.lst xs)) : gIx s (.ref i) (.int n) = L2.atI xs n := by
  unfold gIx
  rw [dct_refL h]
  show ixD (view s (.ref i)) n = _
  rw [view_refL h]
  rfl
theorem len_refL (h : s.mo[i]? = some (.lst xs)) : gLen s (.ref i) = some (.int xs.length) := by
  unfold gLen
  rw [view_refL h]
  rfl
theorem len_refK {ks vs : List D} (h : s.mo[i]? = some (.dK ks vs)) : gLen s (.ref i) = some (.int ks.length) := by
  unfold gLen
  rw [view_refK h]
theorem list_refL (h : s.mo[i]? = some (.lst xs)) : gList s (.ref i) = some xs := by
  unfold gList
  rw [dct_refL h]
  show (match view s (.ref i) with | .str z => _ | v => seqD v) = _
  rw [view_refL h]
  rfl
theorem list_refK {ks vs : List D} (h : s.mo[i]? = some (.dK ks vs)) : gList s (.ref i) = some ks := by
  unfold gList
  rw [dct_refK h]
theorem isLst_refL (h : s.mo[i]? = some (.lst xs)) : isLst s (.ref i) = true := by
  unfold isLst
  rw [view_refL h]
  rfl
theorem ownL_ref (h : s.mo[i]? = some (.lst xs)) : ownL s (.ref i) = some (i, xs) := by
  show (match s.mo[i]? with
    | some (.lst xs) => some (i, xs)
    | _ => none) = _
  rw [h]
theorem tru_refL (h : s.mo[i]? = some (.lst xs)) : truD s (.ref i) = some (!xs.isEmpty) := by
  unfold truD
  rw [dct_refL h]
  show (view s (.ref i)).tru = _
  rw [view_refL h]
  rfl
theorem tru_refK {ks vs : List D} (h : s.mo[i]? = some (.dK ks vs)) : truD s (.ref i) = some (!ks.isEmpty) := by
  unfold truD
  rw [dct_refK h]
theorem append_ref {y : D} (h : s.mo[i]? = some (.lst xs)) (hl : xs.length < sizeLine) (hy : y.low 0 0 = true) : mAppend s (.ref i) [y] = .ok .non (s.put i (.lst (xs ++ [y]))) := by
  unfold mAppend
  rw [ownL_ref h]
  exact if_pos ⟨hl, hy⟩
theorem set_refL {n : Nat} {k : Int} {v : D} (h : s.mo[i]? = some (.lst xs)) (hk : L2.ixN xs.length k = some n) (hv : v.low 0 0 = true) : mSet s (.ref i) (.int k) v = some (s.put i (.lst (xs.set n v))) := by
  show (match s.mo[i]? with
    | some (.lst xs) => (match view s (.int k) with
      | .int k => (match L2.ixN xs.length k with
        | some n => if v.low 0 0 = true then some (s.put i (.lst (xs.set n v))) else none
        | none => none)
      | _ => none)
    | some (.dK ks vs) => _
    | some (.dT ks vs) => _
    | _ => _) = _
  rw [h]
  show (match L2.ixN xs.length k with
        | some n => if v.low 0 0 = true then some (s.put i (.lst (xs.set n v))) else none
        | none => none) = _
  rw [hk]
  exact if_pos hv
theorem set_refK {ks vs : List D} {q : L2.Key} {v k : D} (h : s.mo[i]? = some (.dK ks vs)) (hk : kD k = some q) (hl : ks.length < sizeLine) (hv : v.low 0 0 = true) : mSet s (.ref i) k v = some (s.put i (.dK (putKD ks vs q v).1 (putKD ks vs q v).2)) := by
  show (match s.mo[i]? with
    | some (.lst xs) => _
    | some (.dK ks vs) => (match kD k with
      | some q => if ks.length < sizeLine ∧ v.low 0 0 = true then some (s.put i (.dK (putKD ks vs q v).1 (putKD ks vs q v).2)) else none
      | none => none)
    | some (.dT ks vs) => _
    | _ => _) = _
  rw [h]
  show (match kD k with
      | some q => if ks.length < sizeLine ∧ v.low 0 0 = true then some (s.put i (.dK (putKD ks vs q v).1 (putKD ks vs q v).2)) else none
      | none => none) = _
  rw [hk]
  exact if_pos ⟨hl, hv⟩
theorem set_refT {ks vs : List D} {q : List L2.Key} {v k : D} (h : s.mo[i]? = some (.dT ks vs)) (hk : kTD k = some q) (hl : ks.length < sizeLine) (hv : v.low 0 0 = true) : mSet s (.ref i) k v = some (s.put i (.dT (putTD ks vs q v).1 (putTD ks vs q v).2)) := by
  show (match s.mo[i]? with
    | some (.lst xs) => _
    | some (.dK ks vs) => _
    | some (.dT ks vs) => (match kTD k with
      | some q => if ks.length < sizeLine ∧ v.low 0 0 = true then some (s.put i (.dT (putTD ks vs q v).1 (putTD ks vs q v).2)) else none
      | none => none)
    | _ => _) = _
  rw [h]
  show (match kTD k with
      | some q => if ks.length < sizeLine ∧ v.low 0 0 = true then some (s.put i (.dT (putTD ks vs q v).1 (putTD ks vs q v).2)) else none
      | none => none) = _
  rw [hk]
  exact if_pos ⟨hl, hv⟩
theorem put_get {o' : MO} (h : s.mo[i]? = some o) : (s.put i o').mo[i]? = some o' := by
  show (s.mo.set i o')[i]? = _
  exact List.getElem?_set_self (List.getElem?_eq_some_iff.mp h).1
theorem put_ne (h : i ≠ j) : (s.put i o).mo[j]? = s.mo[j]? := List.getElem?_set_ne h
theorem put_len : (s.put i o).mo.length = s.mo.length := List.length_set
theorem put_tg : (s.put i o).tg = s.tg := rfl
theorem put_put {o' : MO} : (s.put i o).put i o' = s.put i o' := by
  unfold S.put
  congr 1
  exact List.set_set ..
theorem back_put : back s (s.put i o) = s.put i o := by
  unfold back
  rw [show s.mo.length = (s.put i o).mo.length from put_len.symm, List.take_length]
  rfl
theorem back_self : back s s = s := by
  unfold back
  rw [List.take_length]
theorem own_get : (s.own o).mo[s.mo.length]? = some o := by
  show (s.mo ++ [o])[s.mo.length]? = some o
  rw [List.getElem?_append_right (Nat.le_refl _), Nat.sub_self]
  rfl
theorem own_old (h : i < s.mo.length) : (s.own o).mo[i]? = s.mo[i]? := List.getElem?_append_left h
theorem own_len : (s.own o).mo.length = s.mo.length + 1 := by
  show (s.mo ++ [o]).length = _
  simp
theorem own_tg : (s.own o).tg = s.tg := rfl
theorem mo_lt (h : s.mo[i]? = some o) : i < s.mo.length := (List.getElem?_eq_some_iff.mp h).1
/-- the frame's own object is forgotten -/
theorem back_own {s' : S} (h : s'.mo.take s.mo.length = s.mo) : back s s' = s := by
  unfold back
  rw [h]
end
/-! ### the end of a def -/
theorem run_def {n nN : Nat} {f : Sx} {s : S} {ds : List D} (h : ds.length = n) : runDef n nN f s ds = endDef s (f (ds.map some ++ List.replicate (nN - ds.length) none) s) := if_pos h
theorem run_defO {n nN : Nat} {f : Sx} {s : S} {ds : List D} (h : ds.length = n) : runDefO n nN f s ds = endDefO s (f (ds.map some ++ List.replicate (nN - ds.length) none) s) := if_pos h
theorem fin_of {s s' : S} {d : D} (h1 : fzD s.mo.length s' d = some d) (h2 : d.low s.mo.length s.tg = true) : fin s d s' = .ok d (back s s') := by
  unfold fin
  rw [h1]
  exact if_pos h2
theorem fin_int {s s' : S} {k : Int} : fin s (.int k) s' = .ok (.int k) (back s s') := rfl
theorem fin_bl {s s' : S} {k : Bool} : fin s (.bl k) s' = .ok (.bl k) (back s s') := rfl
theorem fin_non {s s' : S} : fin s .non s' = .ok .non (back s s') := rfl
theorem fin_str {s s' : S} {x : Str} : fin s (.str x) s' = .ok (.str x) (back s s') := rfl
theorem fin_lst {s s' : S} {xs : List D} (h : D.lows s.mo.length s.tg xs = true) : fin s (.lst xs) s' = .ok (.lst xs) (back s s') := fin_of rfl h
theorem fin_tup {s s' : S} {xs : List D} (h : D.lows s.mo.length s.tg xs = true) : fin s (.tup xs) s' = .ok (.tup xs) (back s s') := fin_of rfl h
theorem finO_own {s : S} {o : MO} (h : o.live = true) : finO s (.ref s.mo.length) (s.own o) = .ok (.ref s.mo.length) (s.own o) := by
  have e : finO s (.ref s.mo.length) (s.own o) = if s.mo.length < s.mo.length then fin s (.ref s.mo.length) (s.own o) else match (s.own o).mo[s.mo.length]? with
    | some o' => if o'.live = true then .ok (.ref s.mo.length) ⟨(s.own o).mo.take s.mo.length ++ [o'], s.tg⟩ else .stuck
    | none => .stuck := rfl
  rw [e, if_neg (Nat.lt_irrefl _), own_get]
  show (if o.live = true then Out.ok (D.ref s.mo.length) ⟨(s.own o).mo.take s.mo.length ++ [o], s.tg⟩ else .stuck) = _
  rw [if_pos h]
  congr 1
  unfold S.own
  congr 1
  rw [List.take_left]
theorem RUN2 : (type_of% @fin_int) ∧ (type_of% @fin_bl) ∧ (type_of% @fin_non) ∧ (type_of% @fin_str) ∧ (type_of% @back_self) ∧ (type_of% @back_put) := ⟨@fin_int, @fin_bl, @fin_non, @fin_str, @back_self, @back_put⟩
/-! ### low -/
theorem low_all {n t : Nat} : ∀ xs : List D, D.lows n t xs = true ↔ ∀ x ∈ xs, x.low n t = true
  | [] => ⟨fun _ x hx => by simp at hx, fun _ => rfl⟩
  | x :: xs => by
    show (x.low n t && D.lows n t xs) = true ↔ _
    rw [Bool.and_eq_true, low_all xs]
    simp
mutual
theorem low_mono {n t n' t' : Nat} (hn : n ≤ n') (ht : t ≤ t') : ∀ d : D, d.low n t = true → d.low n' t' = true
  | .non, _ => rfl
  | .bl _, _ => rfl
  | .int _, _ => rfl
  | .str _, _ => rfl
  | .lst xs, h => lows_mono hn ht xs h
  | .tup xs, h => lows_mono hn ht xs h
  | .dct ks vs, h => by
    have h2 := Bool.and_eq_true_iff.mp (show (D.lows n t ks && D.lows n t vs) = true from h)
    exact Bool.and_eq_true_iff.mpr ⟨lows_mono hn ht ks h2.1, lows_mono hn ht vs h2.2⟩
  | .ref i, h => decide_eq_true (Nat.lt_of_lt_of_le (of_decide_eq_true h) hn)
  | .inst _ vs, h => lows_mono hn ht vs h
  | .fn _, _ => rfl
  | .tag i d, h => by
    have h2 := Bool.and_eq_true_iff.mp (show (decide (i < t) && d.low n t) = true from h)
    exact Bool.and_eq_true_iff.mpr ⟨decide_eq_true (Nat.lt_of_lt_of_le (of_decide_eq_true h2.1) ht), low_mono hn ht d h2.2⟩
  | .exn _ _, h => nomatch h
  | .lam _ _, h => nomatch h
  | .scr _, _ => rfl
  | .kl xs, h => lows_mono hn ht xs h
theorem lows_mono {n t n' t' : Nat} (hn : n ≤ n') (ht : t ≤ t') : ∀ ds : List D, D.lows n t ds = true → D.lows n' t' ds = true
  | [], _ => rfl
  | d :: ds, h => by
    have h2 := Bool.and_eq_true_iff.mp (show (d.low n t && D.lows n t ds) = true from h)
    exact Bool.and_eq_true_iff.mpr ⟨low_mono hn ht d h2.1, lows_mono hn ht ds h2.2⟩
end
theorem low0 {d : D} {n t : Nat} (h : d.low 0 0 = true) : d.low n t = true := low_mono (Nat.zero_le _) (Nat.zero_le _) d h
theorem lows0 {ds : List D} {n t : Nat} (h : D.lows 0 0 ds = true) : D.lows n t ds = true := lows_mono (Nat.zero_le _) (Nat.zero_le _) ds h
theorem lows_map {α : Type} {n t : Nat} {f : α → D} {xs : List α} (h : ∀ x ∈ xs, (f x).low n t = true) : D.lows n t (xs.map f) = true := by
  rw [low_all]
  intro d hd
  obtain ⟨x, hx, rfl⟩ := List.mem_map.mp hd
  exact h x hx
theorem lows_append {n t : Nat} {xs ys : List D} (h1 : D.lows n t xs = true) (h2 : D.lows n t ys = true) : D.lows n t (xs ++ ys) = true := by
  rw [low_all] at *
  intro d hd
  rcases List.mem_append.mp hd with h | h
  · exact h1 d h
  · exact h2 d h
/-! ### comprehensions -/
theorem comp_inv {c : CT} {t : Tx} {f : Ex} {vs : List Nat} {w : Wk} {e : Env} (P : List D → List D → S → Prop) (hw : ∀ ds acc s, P ds acc s → w.same s)
    (st : ∀ d ds acc s, P (d :: ds) acc s → ∃ e1, c.bind d (wipeE e vs) s = some e1 ∧ ∃ b s1, t e1 s = .ok b s1 ∧ (b = true → ∃ y s2, f e1 s1 = .ok y s2 ∧ acc.length < PySem.sizeLine ∧ P ds (acc ++ [y]) s2) ∧ (b = false → P ds acc s1)) :
    ∀ ds acc s, P ds acc s → ∃ acc' s', compRun c t f vs w e ds acc s = .ok acc' s' ∧ P [] acc' s'
  | [], acc, s, h => by
    refine ⟨acc, s, ?_, h⟩
    unfold compRun
    rw [if_pos (hw _ _ _ h)]
  | d :: ds, acc, s, h => by
    obtain ⟨e1, h1, b, s1, h2, h3, h4⟩ := st d ds acc s h
    cases b with
    | true =>
      obtain ⟨y, s2, h5, h6, h7⟩ := h3 rfl
      obtain ⟨acc', s', h8, h9⟩ := comp_inv P hw st ds (acc ++ [y]) s2 h7
      refine ⟨acc', s', ?_, h9⟩
      unfold compRun
      rw [if_pos (hw _ _ _ h), h1]
      show (t e1 s).bind _ = _
      rw [h2, bind_ok, if_pos rfl, h5, bind_ok, if_pos h6, h8]
    | false =>
      obtain ⟨acc', s', h8, h9⟩ := comp_inv P hw st ds acc s1 (h4 rfl)
      refine ⟨acc', s', ?_, h9⟩
      unfold compRun
      rw [if_pos (hw _ _ _ h), h1]
      show (t e1 s).bind _ = _
      rw [h2, bind_ok, if_neg (by simp), h8]
/-- items that change nothing -/
theorem comp_pure {c : CT} {t : Tx} {f : Ex} {vs : List Nat} {w : Wk} {e : Env} {s : S} (p : D → Bool) (g : D → D) (hw : w.same s) : ∀ (ds acc : List D), acc.length + ds.length ≤ PySem.sizeLine →
    (∀ d ∈ ds, ∃ e1, c.bind d (wipeE e vs) s = some e1 ∧ t e1 s = .ok (p d) s ∧ (p d = true → f e1 s = .ok (g d) s)) →
    compRun c t f vs w e ds acc s = .ok (acc ++ (ds.filter p).map g) s
  | [], acc, hl, st => by
    unfold compRun
    rw [if_pos hw]
    simp
  | d :: ds, acc, hl, st => by
    have hl : acc.length + (ds.length + 1) ≤ PySem.sizeLine := hl
    obtain ⟨e1, h1, h2, h3⟩ := st d List.mem_cons_self
    have st2 := fun d' hd' => st d' (List.mem_cons_of_mem _ hd')
    unfold compRun
    rw [if_pos hw, h1]
    show (t e1 s).bind _ = _
    rw [h2, bind_ok]
    cases hp : p d with
    | true =>
      rw [if_pos rfl, h3 hp, bind_ok, if_pos (by omega), comp_pure p g hw ds (acc ++ [g d]) (by rw [List.length_append, List.length_singleton]; omega) st2, List.filter_cons_of_pos hp]
      simp
    | false =>
      rw [if_neg (by simp), comp_pure p g hw ds acc (by omega) st2, List.filter_cons_of_neg (by simp [hp])]
theorem same_nil {s : S} {xs : List D} : (⟨xs, []⟩ : Wk).same s := fun p hp => by cases hp
/-- [g(x) for x in xs if p(x)] over what does not change -/
theorem aComp_if {ix : Ix} {c : CT} {t : Tx} {f : Ex} {vs : List Nat} {e : Env} {s : S} (ds : List D) (p : D → Bool) (g : D → D) (hix : ix e s = .ok ⟨ds, []⟩ s) (hl : ds.length ≤ PySem.sizeLine)
    (st : ∀ d ∈ ds, ∃ e1, c.bind d (wipeE e vs) s = some e1 ∧ t e1 s = .ok (p d) s ∧ (p d = true → f e1 s = .ok (g d) s)) : aComp ix c t f vs e s = .ok ((ds.filter p).map g) s := by
  rw [r_comp, hix, bind_ok, comp_pure p g same_nil ds [] (by simpa using hl) st]
  rfl
theorem aComp_map {ix : Ix} {c : CT} {f : Ex} {vs : List Nat} {e : Env} {s : S} (ds : List D) (g : D → D) (hix : ix e s = .ok ⟨ds, []⟩ s) (hl : ds.length ≤ PySem.sizeLine)
    (st : ∀ d ∈ ds, ∃ e1, c.bind d (wipeE e vs) s = some e1 ∧ f e1 s = .ok (g d) s) : aComp ix c tAll f vs e s = .ok (ds.map g) s := by
  rw [aComp_if (c := c) (t := tAll) (f := f) (vs := vs) ds (fun _ => true) g hix hl fun d hd => by
    obtain ⟨e1, h1, h2⟩ := st d hd
    exact ⟨e1, h1, rfl, fun _ => h2⟩]
  rw [List.filter_eq_self.mpr fun _ _ => rfl]
/-- .. where what is walked changes the state -/
theorem aComp_ifS {ix : Ix} {c : CT} {t : Tx} {f : Ex} {vs : List Nat} {e : Env} {s s1 : S} (ds : List D) (p : D → Bool) (g : D → D) (hix : ix e s = .ok ⟨ds, []⟩ s1) (hl : ds.length ≤ PySem.sizeLine)
    (st : ∀ d ∈ ds, ∃ e1, c.bind d (wipeE e vs) s1 = some e1 ∧ t e1 s1 = .ok (p d) s1 ∧ (p d = true → f e1 s1 = .ok (g d) s1)) : aComp ix c t f vs e s = .ok ((ds.filter p).map g) s1 := by
  rw [r_comp, hix, bind_ok, comp_pure p g same_nil ds [] (by simpa using hl) st]
  rfl
theorem aComp_mapS {ix : Ix} {c : CT} {f : Ex} {vs : List Nat} {e : Env} {s s1 : S} (ds : List D) (g : D → D) (hix : ix e s = .ok ⟨ds, []⟩ s1) (hl : ds.length ≤ PySem.sizeLine)
    (st : ∀ d ∈ ds, ∃ e1, c.bind d (wipeE e vs) s1 = some e1 ∧ f e1 s1 = .ok (g d) s1) : aComp ix c tAll f vs e s = .ok (ds.map g) s1 := by
  rw [aComp_ifS (c := c) (t := tAll) (f := f) (vs := vs) ds (fun _ => true) g hix hl fun d hd => by
    obtain ⟨e1, h1, h2⟩ := st d hd
    exact ⟨e1, h1, rfl, fun _ => h2⟩]
  rw [List.filter_eq_self.mpr fun _ _ => rfl]
/-- items as values of a type of their own -/
theorem aComp_mapE {α β : Type} {ix : Ix} {c : CT} {f : Ex} {vs : List Nat} {e : Env} {s s1 : S} (xs : List α) (en : α → D) (g : α → β) (eo : β → D) (hix : ix e s = .ok ⟨xs.map en, []⟩ s1) (hl : xs.length ≤ PySem.sizeLine)
    (st : ∀ x ∈ xs, ∃ e1, c.bind (en x) (wipeE e vs) s1 = some e1 ∧ f e1 s1 = .ok (eo (g x)) s1) : aComp ix c tAll f vs e s = .ok ((xs.map g).map eo) s1 := by
  rw [r_comp, hix, bind_ok]
  have key : ∀ (ys : List α) (acc : List D), acc.length + ys.length ≤ PySem.sizeLine → (∀ x ∈ ys, ∃ e1, c.bind (en x) (wipeE e vs) s1 = some e1 ∧ f e1 s1 = .ok (eo (g x)) s1) → ∀ w : Wk, w.src = [] → compRun c tAll f vs w e (ys.map en) acc s1 = .ok (acc ++ (ys.map g).map eo) s1 := fun ys => by
    induction ys with
    | nil =>
      intro acc _ _ w hw
      have sm : w.same s1 := fun p hp => by rw [hw] at hp; cases hp
      unfold compRun
      rw [List.map_nil]
      show (if w.same s1 then Out.ok acc s1 else .stuck) = _
      rw [if_pos sm, List.map_nil, List.map_nil, List.append_nil]
    | cons x ys ih =>
      intro acc hl st w hw
      have hl : acc.length + (ys.length + 1) ≤ PySem.sizeLine := hl
      have sm : w.same s1 := fun p hp => by rw [hw] at hp; cases hp
      obtain ⟨e1, h1, h2⟩ := st x List.mem_cons_self
      rw [List.map_cons]
      unfold compRun
      rw [if_pos sm, h1]
      show (tAll e1 s1).bind _ = _
      rw [r_all, bind_ok, if_pos rfl, h2, bind_ok, if_pos (by omega), ih _ (by rw [List.length_append, List.length_singleton]; omega) (fun y hy => st y (List.mem_cons_of_mem _ hy)) w hw]
      simp
  rw [show (⟨xs.map en, []⟩ : Wk).items = xs.map en from rfl, key xs [] (by simpa using hl) st _ rfl]
  rfl
theorem all_map {α : Type} {s : S} {xs : List α} {q : α → Bool} : gAll s (.lst (xs.map fun d => .bl (q d))) = some (.bl (xs.all q)) := by
  have h : ∀ xs : List α, blsD (xs.map fun d => .bl (q d)) = some (xs.map q) := fun xs => by
    induction xs with
    | nil => rfl
    | cons x xs ih =>
      show (match (D.bl (q x)).strip, blsD (xs.map fun d => .bl (q d)) with
        | .bl b, some bs => some (b :: bs)
        | _, _ => none) = _
      rw [ih]
      rfl
  unfold gAll
  show ((blsD (xs.map fun d => .bl (q d)))).map _ = _
  rw [h]
  show some (D.bl _) = _
  rw [List.all_map]
  rfl
/-! ### loops -/
theorem for_inv {g : Gx} {body : Sx} {w : Wk} (P : List D → Env → S → Prop) (R : Fl → Prop) (hw : ∀ ds e s, P ds e s → w.same s)
    (st : ∀ d ds e s, P (d :: ds) e s → ∃ e1 s1, g d e s = .ok e1 s1 ∧ ((∃ e2 s2, (body e1 s1 = .next e2 s2 ∨ body e1 s1 = .cont e2 s2) ∧ P ds e2 s2) ∨ (∃ r s2, body e1 s1 = .ret r s2 ∧ R (.ret r s2)) ∨ (∃ e2 s2, body e1 s1 = .brk e2 s2 ∧ R (.next e2 s2))))
    (fi : ∀ e s, P [] e s → R (.next e s)) : ∀ ds e s, P ds e s → R (forRun g body w ds e s)
  | [], e, s, h => by
    unfold forRun
    rw [if_pos (hw _ _ _ h)]
    exact fi e s h
  | d :: ds, e, s, h => by
    unfold forRun
    rw [if_pos (hw _ _ _ h)]
    obtain ⟨e1, s1, h1, h2⟩ := st d ds e s h
    rw [h1]
    show R ((body e1 s1).loop (forRun g body w ds))
    rcases h2 with ⟨e2, s2, h3, h4⟩ | ⟨r, s2, h3, h4⟩ | ⟨e2, s2, h3, h4⟩
    · rcases h3 with h3 | h3
      · rw [h3]
        exact for_inv P R hw st fi ds e2 s2 h4
      · rw [h3]
        exact for_inv P R hw st fi ds e2 s2 h4
    · rw [h3]
      exact h4
    · rw [h3]
      exact h4
/-- a for that is never left: what holds of the items left -/
theorem for_run {g : Gx} {body : Sx} {w : Wk} {e : Env} {s : S} {ds : List D} (P : List D → Env → S → Prop) (h0 : P ds e s) (hw : ∀ ds e s, P ds e s → w.same s)
    (st : ∀ d ds e s, P (d :: ds) e s → ∃ e1 s1, g d e s = .ok e1 s1 ∧ ∃ e2 s2, body e1 s1 = .next e2 s2 ∧ P ds e2 s2) : ∃ e' s', forRun g body w ds e s = .next e' s' ∧ P [] e' s' :=
  for_inv (w := w) P (fun r => ∃ e' s', r = .next e' s' ∧ P [] e' s') hw (fun d ds e s h => by
    obtain ⟨e1, s1, h1, e2, s2, h2, h3⟩ := st d ds e s h
    exact ⟨e1, s1, h1, .inl ⟨e2, s2, .inl h2, h3⟩⟩) (fun e s h => ⟨e, s, rfl, h⟩) ds e s h0
theorem while_inv {t : Tx} {body : Sx} (P : Nat → Env → S → Prop) (R : Fl → Prop)
    (st : ∀ n e s, P n e s → ∃ b s1, t e s = .ok b s1 ∧ (b = false → R (.next e s1)) ∧ (b = true → (∃ m e2 s2, m < n ∧ (body e s1 = .next e2 s2 ∨ body e s1 = .cont e2 s2) ∧ P m e2 s2) ∨ (∃ r s2, body e s1 = .ret r s2 ∧ R (.ret r s2)))) :
    ∀ k n e s, P n e s → n < k → R (whileRun t body k e s)
  | 0, n, e, s, h, z => absurd z (Nat.not_lt_zero n)
  | k + 1, n, e, s, h, z => by
    obtain ⟨b, s1, h1, h2, h3⟩ := st n e s h
    unfold whileRun
    rw [h1]
    show R (if b = true then (body e s1).loop (whileRun t body k) else .next e s1)
    cases b with
    | false => exact h2 rfl
    | true =>
      rw [if_pos rfl]
      rcases h3 rfl with ⟨m, e2, s2, hm, h4, h5⟩ | ⟨r, s2, h4, h5⟩
      · have hk : m < k := by omega
        rcases h4 with h4 | h4
        · rw [h4]
          exact while_inv P R st k m e2 s2 h5 hk
        · rw [h4]
          exact while_inv P R st k m e2 s2 h5 hk
      · rw [h4]
        exact h5
/-! ### indices, numbers -/
theorem at0 {x : D} {xs : List D} : L2.atI (x :: xs) 0 = some x := by
  unfold L2.atI L2.ixN
  simp
theorem at1 {x y : D} {xs : List D} : L2.atI (x :: y :: xs) 1 = some y := by
  unfold L2.atI L2.ixN
  rw [if_pos (by decide), if_pos (by simp; omega)]
  rfl
theorem at2 {x y z : D} {xs : List D} : L2.atI (x :: y :: z :: xs) 2 = some z := by
  unfold L2.atI L2.ixN
  rw [if_pos (by decide), if_pos (by simp; omega)]
  rfl
theorem atI_nat {α : Type} {xs : List α} {n : Nat} {k : Int} (hk : k = n) (h : n < xs.length) : L2.atI xs k = some xs[n] := by
  subst hk
  unfold L2.atI L2.ixN
  rw [if_pos (by omega), if_pos (by omega)]
  show xs[(n : Int).toNat]? = _
  rw [Int.toNat_natCast]
  exact List.getElem?_eq_getElem h
theorem atI_lst {α : Type} {xs : List α} {k : Int} (h0 : 0 ≤ k) (h1 : k < xs.length) : ∃ x, L2.atI xs k = some x ∧ x ∈ xs := by
  have hl : k.toNat < xs.length := by omega
  exact ⟨xs[k.toNat], atI_nat (by omega) hl, List.getElem_mem hl⟩
theorem pow3 {i : Int} (h : i.natAbs < 2 ^ 64) : nPow i 3 = some (.int (i ^ 3)) := by
  unfold nPow
  rw [if_pos ⟨by decide, by decide, h⟩]
  rfl
theorem mod_pos {i j : Int} (h : 0 < j) : nMod i j = some (.int (i.fmod j)) := by
  unfold nMod
  rw [if_pos (by omega)]
theorem div_ok {i j : Int} (h : j ≠ 0) (h2 : j.natAbs.log2 < 9000) : nDiv i j = some (.int (i.fdiv j)) := by
  unfold nDiv
  rw [if_pos ⟨h, h2⟩]
theorem div_pos {i j : Int} (h : 0 < j) (h2 : j.natAbs.log2 < 9000) : nDiv i j = some (.int (i.fdiv j)) := div_ok (by omega) h2
theorem mul_small {i j : Int} (h : i.natAbs.log2 + j.natAbs.log2 < 100000000) : nMul i j = some (.int (i * j)) := by
  unfold nMul
  rw [if_pos h]
theorem log2_lt {n k : Nat} (h : n < 2 ^ k) (hk : 0 < k) : n.log2 < k := by
  by_cases h0 : n = 0
  · subst h0
    simpa using hk
  · exact (Nat.log2_lt h0).mpr h
theorem line : sizeLine = 16777216 := rfl
/-- range(n) -/
theorem rng1 {e : Env} {s : S} {n : Nat} {a : Ax} (ha : a e s = .ok [.int (n : Int)] s) (h : n < 2 ^ 30) : ixRng1 a e s = .ok ⟨rngD 0 n, []⟩ s := by
  unfold ixRng1
  rw [ha, bind_ok]
  show (if -(2 ^ 62) ≤ (n : Int) ∧ (n : Int) < 2 ^ 62 then Out.ok (⟨rngD 0 (n : Int).toNat, []⟩ : Wk) s else .stuck) = _
  have c : -(2 ^ 62) ≤ (n : Int) ∧ (n : Int) < 2 ^ 62 := by omega
  rw [if_pos c, Int.toNat_natCast]
theorem rng2 {e : Env} {s : S} {m n : Nat} {a : Ax} (ha : a e s = .ok [.int (m : Int), .int (n : Int)] s) (hm : m < 2 ^ 30) (h : n < 2 ^ 30) : ixRng2 a e s = .ok ⟨rngD (m : Int) (n - m), []⟩ s := by
  unfold ixRng2
  rw [ha, bind_ok]
  show (if -(2 ^ 62) ≤ (m : Int) ∧ (m : Int) < 2 ^ 62 ∧ -(2 ^ 62) ≤ (n : Int) ∧ (n : Int) < 2 ^ 62 then Out.ok (⟨rngD (m : Int) ((n : Int) - (m : Int)).toNat, []⟩ : Wk) s else .stuck) = _
  have c : -(2 ^ 62) ≤ (m : Int) ∧ (m : Int) < 2 ^ 62 ∧ -(2 ^ 62) ≤ (n : Int) ∧ (n : Int) < 2 ^ 62 := by omega
  rw [if_pos c, show ((n : Int) - (m : Int)).toNat = n - m by omega]
theorem rng_len {k : Int} {n : Nat} : (rngD k n).length = n := by
  unfold rngD
  simp
theorem rng_mem {k : Int} {n : Nat} {d : D} (h : d ∈ rngD k n) : ∃ i : Nat, i < n ∧ d = .int (k + i) := by
  unfold rngD at h
  obtain ⟨i, hi, rfl⟩ := List.mem_map.mp h
  exact ⟨i, List.mem_range.mp hi, rfl⟩
theorem rng_cons {k : Int} {n : Nat} : rngD k (n + 1) = .int k :: rngD (k + 1) n := by
  unfold rngD
  rw [List.range_succ_eq_map, List.map_cons, List.map_map]
  congr 1
  · simp
  · refine List.map_congr_left fun i _ => ?_
    show D.int (k + ((i + 1 : Nat) : Int)) = D.int (k + 1 + i)
    congr 1
    omega
end DV
end
section
set_option Elab.async false
set_option linter.all false
set_option maxRecDepth 100000
set_option maxHeartbeats 2000000
/-! PE0: springs. -/
namespace DV
open PySem PySem.Spec PyProof.Rows
/-- object i holds a spring that has drawn at most m numbers -/
def Spr (s : S) (i m : Nat) : Prop := ∃ a b c : Int, s.mo[i]? = some (.lst [.int a, .int b, .int c]) ∧ 0 ≤ b ∧ b < 2147483647 ∧ 0 ≤ c ∧ c ≤ m
theorem spr_lt {s : S} {i m : Nat} (h : Spr s i m) : i < s.mo.length := by
  obtain ⟨a, b, c, h, _⟩ := h
  exact mo_lt h
theorem spr_put {s : S} {i n m : Nat} {o : MO} (h : Spr s i m) (hn : n ≠ i) : Spr (s.put n o) i m := by
  obtain ⟨a, b, c, h, r⟩ := h
  exact ⟨a, b, c, (put_ne hn).trans h, r⟩
theorem spr_own {s : S} {i m : Nat} {o : MO} (h : Spr s i m) : Spr (s.own o) i m := by
  obtain ⟨a, b, c, h, r⟩ := h
  exact ⟨a, b, c, (own_old (mo_lt h)).trans h, r⟩
theorem spr_le {s : S} {i m n : Nat} (h : Spr s i m) (hn : m ≤ n) : Spr s i n := by
  obtain ⟨a, b, c, h, r1, r2, r3, r4⟩ := h
  exact ⟨a, b, c, h, r1, r2, r3, by omega⟩
theorem spr_tg {s : S} {i m t : Nat} (h : Spr s i m) : Spr ⟨s.mo, t⟩ i m := h
/-- the state with only the spring changed: what a def that draws leaves -/
def Drew (s : S) (i m : Nat) (s' : S) : Prop := ∃ o, s' = s.put i o ∧ Spr s' i m
theorem Drew.len {s s' : S} {i m : Nat} (h : Drew s i m s') : s'.mo.length = s.mo.length := by
  obtain ⟨o, rfl, _⟩ := h
  exact put_len
theorem Drew.tg {s s' : S} {i m : Nat} (h : Drew s i m s') : s'.tg = s.tg := by
  obtain ⟨o, rfl, _⟩ := h
  rfl
theorem Drew.spr {s s' : S} {i m : Nat} (h : Drew s i m s') : Spr s' i m := by
  obtain ⟨o, rfl, h⟩ := h
  exact h
theorem Drew.old {s s' : S} {i m j : Nat} (h : Drew s i m s') (hj : j ≠ i) : s'.mo[j]? = s.mo[j]? := by
  obtain ⟨o, rfl, _⟩ := h
  exact put_ne (Ne.symm hj)
theorem Drew.refl {s : S} {i m : Nat} (h : Spr s i m) : Drew s i m s := by
  obtain ⟨a, b, c, e, r⟩ := id h
  refine ⟨.lst [.int a, .int b, .int c], ?_, h⟩
  unfold S.put
  have : s.mo.set i (.lst [.int a, .int b, .int c]) = s.mo := by
    obtain ⟨h1, h2⟩ := List.getElem?_eq_some_iff.mp e
    rw [← h2]
    exact List.set_getElem_self h1
  rw [this]
theorem Drew.trans {s s' s'' : S} {i m n : Nat} (h : Drew s i m s') (h' : Drew s' i n s'') : Drew s i n s'' := by
  obtain ⟨o, rfl, _⟩ := h
  obtain ⟨o', rfl, h2⟩ := h'
  rw [put_put] at h2 ⊢
  exact ⟨o', rfl, h2⟩
theorem Drew.le {s s' : S} {i m n : Nat} (h : Drew s i m s') (hn : m ≤ n) : Drew s i n s' := by
  obtain ⟨o, e, h⟩ := h
  exact ⟨o, e, spr_le h hn⟩
/-- by what stands in each place -/
theorem Drew.of {s s' : S} {i m : Nat} (tg : s'.tg = s.tg) (len : s'.mo.length = s.mo.length) (old : ∀ j, j ≠ i → s'.mo[j]? = s.mo[j]?) (sp : Spr s' i m) : Drew s i m s' := by
  obtain ⟨a, b, c, e, r⟩ := id sp
  refine ⟨.lst [.int a, .int b, .int c], ?_, sp⟩
  obtain ⟨mo, t⟩ := s'
  cases tg
  unfold S.put
  congr 1
  refine List.ext_getElem? fun j => ?_
  by_cases h : i = j
  · subst h
    rw [e, List.getElem?_set_self (by have := mo_lt e; omega)]
  · rw [List.getElem?_set_ne h]
    exact old j (Ne.symm h)
/-- a def's end: its own objects gone -/
theorem Drew.back {s t : S} {i m : Nat} (len : s.mo.length ≤ t.mo.length) (old : ∀ j, j ≠ i → j < s.mo.length → t.mo[j]? = s.mo[j]?) (sp : Spr t i m) (hi : i < s.mo.length) : Drew s i m (DV.back s t) := by
  refine .of rfl ?_ (fun j hj => ?_) ?_
  · show (t.mo.take s.mo.length).length = _
    rw [List.length_take]
    omega
  · show (t.mo.take s.mo.length)[j]? = _
    by_cases h : j < s.mo.length
    · rw [List.getElem?_take_of_lt h]
      exact old j hj h
    · rw [List.getElem?_eq_none (by rw [List.length_take]; omega), List.getElem?_eq_none (by omega)]
  · obtain ⟨a, b, c, e, r⟩ := sp
    exact ⟨a, b, c, by show (t.mo.take s.mo.length)[i]? = _; rw [List.getElem?_take_of_lt hi]; exact e, r⟩
end DV
end
section
set_option Elab.async false
set_option linter.all false
set_option maxRecDepth 100000
set_option maxHeartbeats 2000000
namespace K02
open DV PySem
theorem draw_ok {s : S} {i m : Nat} {n : Int} (h : Spr s i m) (hm : m < 2 ^ 40) (hn : 0 < n) (hn2 : n < 2 ^ 200) :
    ∃ (k : Int) (s' : S), F__law_draw s [.ref i, .int n] = .ok (.int k) s' ∧ 0 ≤ k ∧ k < n ∧ Drew s i (m + 1) s' := by
  obtain ⟨a, b, c, h, hb0, hb1, hc0, hc1⟩ := h
  have hlog : n.natAbs.log2 < 9000 := Nat.lt_trans (log2_lt (k := 200) (by omega) (by decide)) (by decide)
  have st : ∀ {xs : List D} {j : Nat} {k : Int} {v : Int}, s.mo[i]? = some (.lst xs) → L2.ixN xs.length k = some j → mSet s (.ref i) (.int k) (.int v) = some (s.put i (.lst (xs.set j (.int v)))) := fun h hk => set_refL h hk rfl
  by_cases ha : 0 < a
  · have hd : decide (0 < a) = true := decide_eq_true ha
    refine ⟨a.fmod n, s.put i (.lst [.int (a.fdiv n), .int b, .int c]), ?_, Int.fmod_nonneg_of_pos _ hn, Int.fmod_lt_of_pos _ hn, _, rfl, ⟨_, b, c, put_get h, hb0, hb1, hc0, by omega⟩⟩
    show endDef s (m__law_draw [some (.ref i), some (.int n), none, none] s) = _
    unfold m__law_draw
    simp only [RUN, RUN2, xVar, List.getElem?_cons_zero, List.getElem?_cons_succ, ix_refL h, at0, at1, at2, hd, st (j := 0) (k := 0) h rfl, mod_pos hn, div_pos hn hlog, List.set_cons_zero, List.set_cons_succ]
  · have hd : decide (0 < a) = false := decide_eq_false ha
    have h1 := put_get (o' := .lst [.int a, .int b, .int (c + 1)]) h
    have e1 : (b + 6364137 * (c + 1) + 1442695).natAbs < 2 ^ 64 := by omega
    have m1 : (Int.natAbs 6364137).log2 + (c + 1).natAbs.log2 < 100000000 := by
      have z1 : (Int.natAbs 6364137).log2 < 64 := log2_lt (by decide) (by decide)
      have z2 : (c + 1).natAbs.log2 < 64 := log2_lt (by omega) (by decide)
      omega
    have m3 : (Int.natAbs 11).log2 + (c + 1).natAbs.log2 < 100000000 := by
      have z1 : (Int.natAbs 11).log2 < 64 := log2_lt (by decide) (by decide)
      have z2 : (c + 1).natAbs.log2 < 64 := log2_lt (by omega) (by decide)
      omega
    generalize hx : ((b + 6364137 * (c + 1) + 1442695) ^ 3).fmod 2147483647 = x
    have x0 : 0 ≤ x := by rw [← hx]; exact Int.fmod_nonneg_of_pos _ (by decide)
    have x1 : x < 2147483647 := by rw [← hx]; exact Int.fmod_lt_of_pos _ (by decide)
    have m2 : x.natAbs.log2 + (Int.natAbs 48271).log2 < 100000000 := by
      have z1 : (Int.natAbs 48271).log2 < 64 := log2_lt (by decide) (by decide)
      have z2 : x.natAbs.log2 < 64 := log2_lt (by omega) (by decide)
      omega
    have e2 : (x * 48271 + 11 * (c + 1)).natAbs < 2 ^ 64 := by omega
    have p1 : (0 : Int) < 2147483647 := by decide
    have p2 : (0 : Int) < 2147483629 := by decide
    have p3 : (0 : Int) < 8 := by decide
    have l3 : (Int.natAbs 8).log2 < 9000 := Nat.lt_trans (log2_lt (k := 64) (by decide) (by decide)) (by decide)
    refine ⟨((((x * 48271 + 11 * (c + 1)) ^ 3).fmod 2147483629).fdiv 8).fmod n, s.put i (.lst [.int a, .int b, .int (c + 1)]), ?_, Int.fmod_nonneg_of_pos _ hn, Int.fmod_lt_of_pos _ hn, _, rfl, ⟨a, b, c + 1, h1, hb0, hb1, by omega, by omega⟩⟩
    show endDef s (m__law_draw [some (.ref i), some (.int n), none, none] s) = _
    unfold m__law_draw
    simp only [RUN, RUN2, xVar, List.getElem?_cons_zero, List.getElem?_cons_succ, ix_refL h, ix_refL h1, at0, at1, at2, hd, st (j := 2) (k := 2) h rfl, mul_small m1, mul_small m2, mul_small m3, pow3 e1, pow3 e2, mod_pos p1, mod_pos p2, div_pos p3 l3, hx, mod_pos hn, div_pos hn hlog, List.set_cons_zero, List.set_cons_succ]
theorem pick_ok {s : S} {i m : Nat} {xs : List D} (h : Spr s i m) (hm : m < 2 ^ 40) (hx : xs ≠ []) (hl : xs.length < 2 ^ 60) (hf : ∀ x ∈ xs, x.low 0 0 = true) :
    ∃ (x : D) (s' : S), x ∈ xs ∧ F__law_pick s [.ref i, .lst xs] = .ok x s' ∧ Drew s i (m + 1) s' := by
  have hp : 0 < xs.length := List.length_pos_iff.mpr hx
  obtain ⟨k, s', e, k0, k1, dr⟩ := draw_ok (n := (xs.length : Int)) h hm (by omega) (by omega)
  obtain ⟨x, e2, hin⟩ := atI_lst (xs := xs) k0 k1
  refine ⟨x, s', hin, ?_, dr⟩
  obtain ⟨o, rfl, _⟩ := dr
  show endDef s (m__law_pick [some (.ref i), some (.lst xs)] s) = _
  unfold m__law_pick
  simp only [RUN, RUN2, xVar, List.getElem?_cons_zero, List.getElem?_cons_succ, e, e2]
  have hx0 := hf x hin
  have fz : fzD s.mo.length (s.put i o) x = some x := by
    cases x <;> first | rfl | (exact absurd (of_decide_eq_true hx0) (Nat.not_lt_zero _))
  rw [fin_of fz (low0 hx0), back_put]
theorem pop_at {s : S} {n : Nat} {xs : List D} {k : Int} (h : s.mo[n]? = some (.lst xs)) (k0 : 0 ≤ k) (k1 : k < xs.length) (hl : xs.length < 2 ^ 60) : ∃ y, xs[k.toNat]? = some y ∧ mPop s (.ref n) [.int k] = .ok y (s.put n (.lst (xs.eraseIdx k.toNat))) := by
  have hk : k.toNat < xs.length := by omega
  refine ⟨xs[k.toNat], List.getElem?_eq_getElem hk, ?_⟩
  have hi : L2.ixN xs.length k = some k.toNat := by
    unfold L2.ixN
    rw [if_pos k0, if_pos k1]
  have hs := (L2.ixN_seq hi).1
  unfold mPop
  rw [ownL_ref h]
  show (if -(2 ^ 63) ≤ k ∧ k < 2 ^ 63 then (match PySem.seqIndex? k xs.length with
      | some n' => (match xs[n']? with
        | some y => .ok y (s.put n (.lst (xs.eraseIdx n')))
        | none => .stuck)
      | none => .stuck) else Out.stuck) = _
  rw [if_pos ⟨by omega, by omega⟩, hs]
  show (match xs[k.toNat]? with
        | some y => Out.ok y (s.put n (.lst (xs.eraseIdx k.toNat)))
        | none => .stuck) = _
  rw [List.getElem?_eq_getElem hk]
theorem perm_erase : ∀ {xs : List D} {j : Nat} {y : D}, xs[j]? = some y → xs.Perm (y :: xs.eraseIdx j)
  | [], j, y, h => by simp at h
  | x :: xs, 0, y, h => by
    cases h
    exact .refl _
  | x :: xs, j + 1, y, h => ((perm_erase (xs := xs) (j := j) h).cons x).trans (List.Perm.swap y x _)
/-- what holds within _law_mixed's comprehension -/
structure MixI (s : S) (i m : Nat) (xs : List D) (ds acc : List D) (t : S) : Prop where
  tg : t.tg = s.tg
  len : t.mo.length = s.mo.length + 1
  old : ∀ j, j ≠ i → j < s.mo.length → t.mo[j]? = s.mo[j]?
  sp : Spr t i (m + acc.length)
  rest : ∃ rest, t.mo[s.mo.length]? = some (.lst rest) ∧ rest.length = ds.length ∧ (acc ++ rest).Perm xs
theorem mixed_ok {s : S} {i m : Nat} {xs : List D} (sp : Spr s i m) (hm : m + xs.length < 2 ^ 40) (hl : xs.length < 2 ^ 20) (low : D.lows 0 0 xs = true) :
    ∃ (ys : List D) (s' : S), ys.Perm xs ∧ F__law_mixed s [.ref i, .lst xs] = .ok (.lst ys) s' ∧ Drew s i (m + xs.length) s' := by
  have hi := spr_lt sp
  have hN : s.mo.length ≠ i := Nat.ne_of_gt hi
  have h0 : (s.own (.lst xs)).mo[s.mo.length]? = some (.lst xs) := own_get
  have rng : ixRng1 (aCons (xCall (noX (f1 gLen)) (aCons (xVar 2) aNil)) aNil) [some (.ref i), some (.lst xs), some (.ref s.mo.length), none] (s.own (.lst xs)) = .ok ⟨rngD 0 xs.length, []⟩ (s.own (.lst xs)) := by
    refine rng1 ?_ (by omega)
    simp only [RUN, xVar, List.getElem?_cons_zero, List.getElem?_cons_succ, len_refL h0]
  have I0 : MixI s i m xs (rngD 0 xs.length) [] (s.own (.lst xs)) := ⟨rfl, own_len, fun j _ h2 => own_old h2, spr_own sp, xs, own_get, rng_len.symm, .refl _⟩
  obtain ⟨ys, t, run, I1⟩ := comp_inv (c := .one 3) (t := tAll) (f := E__law_mixed_0) (vs := [3]) (w := ⟨rngD 0 xs.length, []⟩) (e := [some (.ref i), some (.lst xs), some (.ref s.mo.length), none])
    (fun ds acc t => MixI s i m xs ds acc t) (fun _ _ _ _ => same_nil) (fun d ds acc t h => by
    obtain ⟨rest, h1, h2, h3⟩ := h.rest
    have hlen : acc.length + rest.length = xs.length := by
      have z := h3.length_eq
      rw [List.length_append] at z
      exact z
    have h2' : rest.length = ds.length + 1 := h2
    obtain ⟨k, s', e, k0, k1, dr⟩ := draw_ok (n := (rest.length : Int)) h.sp (by omega) (by omega) (by omega)
    have hn' : s'.mo[s.mo.length]? = some (.lst rest) := (dr.old hN).trans h1
    obtain ⟨y, hy, hpop⟩ := pop_at hn' k0 k1 (by omega)
    refine ⟨_, rfl, true, t, rfl, fun _ => ⟨y, s'.put s.mo.length (.lst (rest.eraseIdx k.toNat)), ?_, by rw [line]; omega, ?_⟩, fun z => nomatch z⟩
    · show E__law_mixed_0 [some (.ref i), some (.lst xs), some (.ref s.mo.length), some d] t = _
      simp only [E__law_mixed_0, RUN, xVar, List.getElem?_cons_zero, List.getElem?_cons_succ, isLst_refL h1, len_refL h1, e, hpop]
    · refine ⟨dr.tg.trans h.tg, ?_, fun k k1 k2 => ?_, ?_, rest.eraseIdx k.toNat, put_get hn', ?_, ?_⟩
      · rw [put_len, dr.len]
        exact h.len
      · rw [put_ne (Nat.ne_of_gt k2), dr.old k1]
        exact h.old k k1 k2
      · rw [List.length_append]
        exact spr_put dr.spr hN
      · rw [List.length_eraseIdx_of_lt (List.getElem?_eq_some_iff.mp hy).1]
        omega
      · rw [List.append_assoc]
        exact ((List.Perm.append_left acc (perm_erase hy)).symm).trans h3) (rngD 0 xs.length) [] _ I0
  obtain ⟨rest, _, h2, hp⟩ := I1.rest
  have h2 : rest = [] := List.length_eq_zero_iff.mp h2
  rw [h2, List.append_nil] at hp
  have sp' := I1.sp
  rw [hp.length_eq] at sp'
  refine ⟨ys, back s t, hp, ?_, .back (by rw [I1.len]; omega) I1.old sp' hi⟩
  show endDef s (m__law_mixed [some (.ref i), some (.lst xs), none, none] s) = _
  unfold m__law_mixed
  simp only [RUN, r_comp, low, rng, run]
  refine fin_lst (lows0 ?_)
  rw [low_all] at low ⊢
  exact fun x hx => low x (hp.mem_iff.mp hx)
end K02
end
section
set_option Elab.async false
set_option linter.all false
set_option maxRecDepth 100000
set_option maxHeartbeats 2000000
namespace K02
open DV PySem
theorem enum_mem : ∀ {xs : List D} {k : Nat} {d : D}, d ∈ enumD k xs → ∃ (i : Nat) (x : D), d = .tup [.int (i : Int), x] ∧ x ∈ xs ∧ i < k + xs.length
  | [], k, d, h => by cases h
  | x :: xs, k, d, h => by
    rcases List.mem_cons.mp (show d ∈ D.tup [.int k, x] :: enumD (k + 1) xs from h) with h | h
    · exact ⟨k, x, h, List.mem_cons_self, by simp⟩
    · obtain ⟨i, y, e, hy, hi⟩ := enum_mem h
      exact ⟨i, y, e, List.mem_cons_of_mem _ hy, by rw [List.length_cons]; omega⟩
theorem scr_len {s : S} {d : D} {ns : List Int} (h : scrD d ns) : gLen s d = some (.int ns.length) := by
  rcases h with rfl | rfl
  · show some (D.int ((ns.map D.int).length : Nat)) = _
    rw [List.length_map]
  · show some (D.int ((ns.map D.int).length : Nat)) = _
    rw [List.length_map]
theorem scr_ix {s : S} {d : D} {ns : List Int} {k : Int} (h : scrD d ns) : gIx s d (.int k) = L2.atI (ns.map D.int) k := by
  rcases h with rfl | rfl <;> rfl
theorem scr_cut {s : S} {d : D} {ns : List Int} {a b : Option Int} (h : scrD d ns) : sliceD (view s d) a b = some (.lst (cutL (ns.map D.int) a b)) := by
  rcases h with rfl | rfl <;> rfl
theorem cut_mem {α : Type} {xs : List α} {a b : Option Int} {x : α} (h : x ∈ cutL xs a b) : x ∈ xs := List.mem_of_mem_drop (List.mem_of_mem_take h)
theorem cut_len {α : Type} {xs : List α} {a b : Option Int} : (cutL xs a b).length ≤ xs.length := by
  unfold cutL
  rw [List.length_take, List.length_drop]
  omega
theorem bits_log {z : Int} (h : Builtin.Int.intBits z ≤ 1048576) : z.natAbs.log2 < 2000000 := by
  unfold Builtin.Int.intBits at h
  split at h
  · rename_i e
    rw [show z = 0 from by simpa using e]
    decide
  · omega
theorem small_log {z : Int} (h : z.natAbs < 2 ^ 64) : z.natAbs.log2 < 64 := log2_lt h (by decide)
theorem spring_ok {s : S} {d : D} {ns : List Int} {t : Nat} (h : scrD d ns) (hl : ns.length ≤ 63) (hb : ∀ z ∈ ns, Builtin.Int.intBits z ≤ 1048576) (ht : t < 100) :
    ∃ s', F__law_spring s [d, .int (t : Int)] = .ok (.ref s.mo.length) s' ∧ (∃ o, s' = s.own o) ∧ Spr s' s.mo.length 0 := by
  have go : ∀ (cell : Int), cell.natAbs.log2 < 2000000 → (if (t : Int) < ns.length then L2.atI (ns.map D.int) t else some (D.int (7 * t + ns.length))) = some (.int cell) → ∃ s', F__law_spring s [d, .int (t : Int)] = .ok (.ref s.mo.length) s' ∧ (∃ o, s' = s.own o) ∧ Spr s' s.mo.length 0 := fun cell hc he => by
    have m7 : (Int.natAbs 7).log2 + (t : Int).natAbs.log2 < 100000000 := by
      have z1 : (Int.natAbs 7).log2 < 64 := small_log (by decide)
      have z2 : (t : Int).natAbs.log2 < 64 := small_log (by omega)
      omega
    have m97 : (Int.natAbs 97).log2 + (t : Int).natAbs.log2 < 100000000 := by
      have z1 : (Int.natAbs 97).log2 < 64 := small_log (by decide)
      have z2 : (t : Int).natAbs.log2 < 64 := small_log (by omega)
      omega
    have m31 : cell.natAbs.log2 + (Int.natAbs 31).log2 < 100000000 := by
      have z1 : (Int.natAbs 31).log2 < 64 := small_log (by decide)
      omega
    obtain ⟨e', s', run, ⟨mix, x4, x5, he', h0, h1⟩, hs⟩ := for_run (g := gUnp 2 (gsCons (gVar 4) (gsCons (gVar 5) gsNil))) (body := B__law_spring_0)
      (w := ⟨enumD 0 (cutL (ns.map D.int) none (some 63)), []⟩) (e := [some d, some (.int (t : Int)), some (.int cell), some (.int (1009 + 97 * (t : Int))), none, none]) (s := s) (ds := enumD 0 (cutL (ns.map D.int) none (some 63)))
      (fun ds e s' => (∃ (mix : Int) (x4 x5 : Option D), e = [some d, some (.int (t : Int)), some (.int cell), some (.int mix), x4, x5] ∧ 0 ≤ mix ∧ mix < 2147483647) ∧ s' = s ∧ ∀ x ∈ ds, ∃ (i : Nat) (z : Int), x = .tup [.int (i : Int), .int z] ∧ i < 64)
      ⟨⟨_, none, none, rfl, by omega, by omega⟩, rfl, fun x hx => by
        obtain ⟨i, y, rfl, hy, hi⟩ := enum_mem hx
        obtain ⟨z, _, rfl⟩ := List.mem_map.mp (cut_mem hy)
        have : (cutL (ns.map D.int) none (some 63)).length ≤ (ns.map D.int).length := cut_len
        rw [List.length_map] at this
        exact ⟨i, z, rfl, by omega⟩⟩ (fun _ _ _ _ => same_nil) (fun y ds e s' ⟨⟨mix, x4, x5, he, h0, h1⟩, hs, hy⟩ => by
        subst he hs
        obtain ⟨i, z, rfl, hi⟩ := hy y List.mem_cons_self
        have m1 : mix.natAbs.log2 + (Int.natAbs 69069).log2 < 100000000 := by
          have z1 : (Int.natAbs 69069).log2 < 64 := small_log (by decide)
          have z2 : mix.natAbs.log2 < 64 := small_log (by omega)
          omega
        have m5 : (Int.natAbs 5).log2 + (i : Int).natAbs.log2 < 100000000 := by
          have z1 : (Int.natAbs 5).log2 < 64 := small_log (by decide)
          have z2 : (i : Int).natAbs.log2 < 64 := small_log (by omega)
          omega
        have p : (0 : Int) < 2147483629 := by decide
        refine ⟨_, _, rfl, [some d, some (.int (t : Int)), some (.int cell), some (.int ((mix * 69069 + z + 5 * i + 1).fmod 2147483629)), some (.int i), some (.int z)], s', ?_, ⟨_, _, _, rfl, Int.fmod_nonneg_of_pos _ p, ?_⟩, rfl, fun x hx => hy x (List.mem_cons_of_mem _ hx)⟩
        · simp only [B__law_spring_0, RUN, xVar, List.getElem?_cons_zero, List.getElem?_cons_succ, List.set_cons_zero, List.set_cons_succ, mul_small m1, mul_small m5, mod_pos p]
        · have := Int.fmod_lt_of_pos (mix * 69069 + z + 5 * i + 1) p
          omega)
    obtain ⟨hs, _⟩ := hs
    subst he'
    rw [hs] at run
    clear hs
    have hp : (0 : Int) < 2147483647 := by decide
    have hpow : nPow 10 18 = some (.int (10 ^ 18)) := rfl
    refine ⟨s.own (.lst [.int (if 10 ^ 18 ≤ cell then cell else 0), .int ((mix + cell * 31).fmod 2147483647), .int 0]), ?_, ⟨_, rfl⟩, if 10 ^ 18 ≤ cell then cell else 0, (mix + cell * 31).fmod 2147483647, 0, own_get, Int.fmod_nonneg_of_pos _ hp, Int.fmod_lt_of_pos _ hp, Int.le_refl _, Int.le_refl _⟩
    show endDefO s (m__law_spring [some d, some (.int (t : Int)), none, none, none, none] s) = _
    unfold m__law_spring
    have k1 : decide ((10 : Int) ^ 18 ≤ cell) = if 10 ^ 18 ≤ cell then true else false := by
      by_cases z : (10 : Int) ^ 18 ≤ cell
      · rw [if_pos z]; exact decide_eq_true z
      · rw [if_neg z]; exact decide_eq_false z
    have fe : ∀ cl : Int, finO s (.ref s.mo.length) (s.own (.lst [.int cl, .int ((mix + cell * 31).fmod 2147483647), .int 0])) = .ok (.ref s.mo.length) (s.own (.lst [.int cl, .int ((mix + cell * 31).fmod 2147483647), .int 0])) := fun _ => finO_own rfl
    have lw : ∀ x y z : Int, D.lows 0 0 [.int x, .int y, .int z] = true := fun _ _ _ => rfl
    have l3 : ∀ x y z : D, decide ([x, y, z].length ≤ sizeLine) = true := fun _ _ _ => rfl
    by_cases hlt : (t : Int) < ns.length
    · rw [if_pos hlt] at he
      by_cases z : (10 : Int) ^ 18 ≤ cell
      · simp only [RUN, xVar, List.getElem?_cons_zero, List.getElem?_cons_succ, scr_len h, decide_eq_true hlt, scr_ix h, he, List.set_cons_zero, List.set_cons_succ, mul_small m97, scr_cut h, run, hpow, mul_small m31, mod_pos hp, decide_eq_true z, lw, l3, fe, if_pos z]
      · simp only [RUN, xVar, List.getElem?_cons_zero, List.getElem?_cons_succ, scr_len h, decide_eq_true hlt, scr_ix h, he, List.set_cons_zero, List.set_cons_succ, mul_small m97, scr_cut h, run, hpow, mul_small m31, mod_pos hp, decide_eq_false z, lw, l3, fe, if_neg z]
    · rw [if_neg hlt] at he
      cases he
      by_cases z : (10 : Int) ^ 18 ≤ 7 * (t : Int) + ns.length
      · simp only [RUN, xVar, List.getElem?_cons_zero, List.getElem?_cons_succ, scr_len h, decide_eq_false hlt, mul_small m7, List.set_cons_zero, List.set_cons_succ, mul_small m97, scr_cut h, run, hpow, mul_small m31, mod_pos hp, decide_eq_true z, lw, l3, fe, if_pos z]
      · simp only [RUN, xVar, List.getElem?_cons_zero, List.getElem?_cons_succ, scr_len h, decide_eq_false hlt, mul_small m7, List.set_cons_zero, List.set_cons_succ, mul_small m97, scr_cut h, run, hpow, mul_small m31, mod_pos hp, decide_eq_false z, lw, l3, fe, if_neg z]
  by_cases hlt : (t : Int) < ns.length
  · have hlt' : t < ns.length := by omega
    refine go ns[t] (bits_log (hb _ (List.getElem_mem hlt'))) ?_
    rw [if_pos hlt, atI_nat rfl (by rw [List.length_map]; exact hlt')]
    simp
  · refine go (7 * t + ns.length) ?_ (by rw [if_neg hlt])
    have : (7 * (t : Int) + ns.length).natAbs.log2 < 64 := small_log (by omega)
    omega
end K02
end
section
set_option Elab.async false
set_option linter.all false
set_option maxRecDepth 100000
set_option maxHeartbeats 2000000
/-! PF: texts, names as data; dicts with such keys. -/
namespace DV
open PySem PySem.Spec PyProof.Rows
theorem str_ext {x y : Str} (h : x.cps.toList = y.cps.toList) : x = y := by
  obtain ⟨⟨a⟩⟩ := x
  obtain ⟨⟨b⟩⟩ := y
  have h : a = b := h
  rw [h]
theorem cat_list {x y : Str} : (x ++ y).cps.toList = x.cps.toList ++ y.cps.toList := by
  show (x.cps ++ y.cps).toList = _
  exact Array.toList_append
theorem len_list {x : Str} : x.length = x.cps.toList.length := by
  show x.cps.size = _
  exact Array.length_toList.symm
theorem o_addS {s : S} {x y : Str} (h : x.length + y.length ≤ sizeLine) : gAdd s (.str x) (.str y) = some (.str (x ++ y)) := if_pos h
theorem o_lenS {s : S} {x : Str} (h : x.length ≤ sizeLine) : gLen s (.str x) = some (.int x.length) := if_pos h
theorem o_listS {s : S} {z : Str} (h : z.length ≤ sizeLine) : gList s (.str z) = some (signsD z) := by
  show (if z.cps.size ≤ sizeLine then some (signsD z) else none) = _
  exact if_pos h
/-- the first k signs -/
def takeS (k : Nat) (z : Str) : Str := ⟨(z.cps.toList.take k).toArray⟩
theorem takeS_list {k : Nat} {z : Str} : (takeS k z).cps.toList = z.cps.toList.take k := by
  show (z.cps.toList.take k).toArray.toList = _
  rfl
theorem cut_take {z : Str} {k : Nat} : L2.cutS z none (some (k : Int)) = takeS k z := by
  unfold L2.cutS takeS
  congr 2
  rw [HT.sIx_none, HT.sIx_nat, List.drop_zero, Nat.sub_zero, len_list]
  rw [List.take_eq_take_iff]
  omega
theorem o_cutS {z : Str} {k : Nat} (h : z.length ≤ sizeLine) : sliceD (.str z) none (some (k : Int)) = some (.str (takeS k z)) := by
  show (if z.length ≤ sizeLine then some (D.str (L2.cutS z none (some (k : Int)))) else none) = _
  rw [if_pos h, cut_take]
theorem sign_mem {z : Str} {d : D} (h : d ∈ signsD z) : ∃ c ∈ z.cps.toList, d = .str ⟨#[c]⟩ := by
  obtain ⟨c, hc, rfl⟩ := List.mem_map.mp h
  exact ⟨c, hc, rfl⟩
/-! ### dicts whose keys are texts -/
theorem look_str {ks : List Str} : ∀ {vs : List D} {x : Str}, vs.length = ks.length → (look1 (ks.map D.str) vs (.inr x)).isSome = decide (x ∈ ks) := by
  induction ks with
  | nil =>
    intro vs x h
    cases vs with
    | nil => rfl
    | cons _ _ => cases h
  | cons k ks ih =>
    intro vs x h
    cases vs with
    | nil => cases h
    | cons v vs =>
      have h : vs.length + 1 = ks.length + 1 := h
      show (if (some (Sum.inr k) : Option L2.Key) = some (.inr x) then some v else look1 (ks.map D.str) vs (.inr x)).isSome = _
      by_cases e : k = x
      · subst e
        rw [if_pos rfl]
        simp
      · rw [if_neg (by intro z; cases z; exact e rfl), ih (by omega)]
        simp [Ne.symm e]
theorem in_refS {s : S} {i : Nat} {ks : List Str} {vs : List D} {x : Str} (h : s.mo[i]? = some (.dK (ks.map D.str) vs)) (hl : vs.length = ks.length) : gIn s (.str x) (.ref i) = some (.bl (decide (x ∈ ks))) := by
  unfold gIn inD
  rw [dct_refK h]
  show ((some (look1 (ks.map D.str) vs (.inr x))).map (·.isSome)).map D.bl = _
  rw [Option.map_some, Option.map_some, look_str hl]
theorem put_str {ks : List Str} {vs : List D} {x : Str} {v : D} (hl : vs.length = ks.length) (h : x ∉ ks) : putKD (ks.map D.str) vs (.inr x) v = ((ks ++ [x]).map D.str, vs ++ [v]) := by
  unfold putKD
  rw [look_str hl, if_neg (by simpa using h)]
  simp [keyD]
/-! ### names -/
def letterC (c : Nat) : Prop := 97 ≤ c ∧ c ≤ 122
def signC (c : Nat) : Prop := letterC c ∨ (48 ≤ c ∧ c ≤ 57)
/-- a name: a letter, then at most seven letters and figures -/
def GoodN (x : Str) : Prop := ∃ c r, x.cps.toList = c :: r ∧ letterC c ∧ (∀ d ∈ r, signC d) ∧ r.length ≤ 7
theorem GoodN.len {x : Str} (h : GoodN x) : 1 ≤ x.length ∧ x.length ≤ 8 := by
  obtain ⟨c, r, e, _, _, hl⟩ := h
  rw [len_list, e, List.length_cons]
  omega
/-- distinct things all found in a row -/
theorem nodup_le {α : Type} [DecidableEq α] : ∀ {cs xs : List α}, cs.Nodup → (∀ c ∈ cs, c ∈ xs) → cs.length ≤ xs.length
  | [], xs, _, _ => Nat.zero_le _
  | c :: cs, xs, nd, h => by
    have hc := h c List.mem_cons_self
    have nd2 := List.nodup_cons.mp nd
    have ih := nodup_le (cs := cs) (xs := xs.erase c) nd2.2 fun d hd => by
      have ne : d ≠ c := fun z => nd2.1 (z ▸ hd)
      exact (List.mem_erase_of_ne ne).mpr (h d (List.mem_cons_of_mem _ hd))
    have hl := List.length_erase_of_mem hc
    have hp := List.length_pos_of_mem hc
    rw [List.length_cons]
    omega
end DV
end
section
set_option Elab.async false
set_option linter.all false
set_option maxRecDepth 100000
set_option maxHeartbeats 4000000
namespace K02
open DV PySem
def NmL (L : Nat) (x : Str) : Prop := ∃ c r, x.cps.toList = c :: r ∧ letterC c ∧ (∀ d ∈ r, signC d) ∧ r.length ≤ L
theorem NmL.len {L : Nat} {x : Str} (h : NmL L x) : x.length ≤ L + 1 := by
  obtain ⟨c, r, e, _, _, hl⟩ := h
  rw [len_list, e, List.length_cons]
  omega
theorem NmL.mono {L M : Nat} {x : Str} (h : NmL L x) (hm : L ≤ M) : NmL M x := by
  obtain ⟨c, r, e, h1, h2, hl⟩ := h
  exact ⟨c, r, e, h1, h2, by omega⟩
theorem NmL.one {c : Nat} (h : letterC c) : NmL 0 ⟨#[c]⟩ := ⟨c, [], rfl, h, fun d hd => by simp at hd, Nat.le_refl _⟩
theorem NmL.add {L : Nat} {x : Str} {c : Nat} (h : NmL L x) (hc : signC c) : NmL (L + 1) (x ++ ⟨#[c]⟩) := by
  obtain ⟨d, r, e, h1, h2, hl⟩ := h
  refine ⟨d, r ++ [c], by rw [cat_list, e]; rfl, h1, fun z hz => ?_, by rw [List.length_append, List.length_singleton]; omega⟩
  rcases List.mem_append.mp hz with hz | hz
  · exact h2 z hz
  · rw [List.mem_singleton.mp hz]
    exact hc
theorem NmL.take {L k : Nat} {x : Str} (h : NmL L x) : NmL k (takeS (k + 1) x) := by
  obtain ⟨d, r, e, h1, h2, hl⟩ := h
  refine ⟨d, r.take k, by rw [takeS_list, e]; rfl, h1, fun z hz => h2 z (List.mem_of_mem_take hz), by rw [List.length_take]; omega⟩
/-- what holds of the names so far -/
structure NI (s : S) (i m : Nat) (ks : List Str) (t : S) : Prop where
  tg : t.tg = s.tg
  len : t.mo.length = s.mo.length + 1
  old : ∀ j, j ≠ i → j < s.mo.length → t.mo[j]? = s.mo[j]?
  sp : Spr t i (m + 10 * ks.length)
  dict : ∃ vs, t.mo[s.mo.length]? = some (.dK (ks.map D.str) vs) ∧ vs.length = ks.length
  nd : ks.Nodup
  good : ∀ x ∈ ks, NmL 6 x
/-- drawing leaves the rest -/
structure ND (t : S) (i N m : Nat) (t' : S) : Prop where
  dr : Drew t i m t'
  ne : N ≠ i
theorem pickS {t : S} {i m : Nat} {z : Str} (sp : Spr t i m) (hm : m < 2 ^ 40) (hz : z.cps.toList ≠ []) (hl : z.length < 100) : ∃ c t', c ∈ z.cps.toList ∧ F__law_pick t [.ref i, .lst (signsD z)] = .ok (.str ⟨#[c]⟩) t' ∧ Drew t i (m + 1) t' := by
  obtain ⟨x, t', hx, e, dr⟩ := pick_ok (xs := signsD z) sp hm (by unfold signsD; simpa using hz) (by unfold signsD; rw [List.length_map, ← len_list]; omega) (fun x hx => by
    obtain ⟨c, _, rfl⟩ := sign_mem hx
    rfl)
  obtain ⟨c, hc, rfl⟩ := sign_mem hx
  exact ⟨c, t', hc, e, dr⟩
theorem list_lit {t : S} {e : DV.Env} {z : Str} (hl : z.length ≤ sizeLine) : xFz (aCallN (fn1 gList) (aCons (xC (.str z)) aNil)) e t = .ok (.lst (signsD z)) t := by
  simp only [RUN, o_listS hl]
def stepN (ks : List Str) (x : Str) (c : Nat) : Str := if x ∈ ks then takeS 6 x ++ ⟨#[c]⟩ else x
theorem step_stay {ks : List Str} {x : Str} (h : x ∉ ks) : ∀ cs : List Nat, cs.foldl (stepN ks) x = x
  | [] => rfl
  | c :: cs => by
    rw [List.foldl_cons, show stepN ks x c = x from if_neg h]
    exact step_stay h cs
theorem step_last {ks : List Str} : ∀ (cs : List Nat) (x : Str), cs.foldl (stepN ks) x ∈ ks → ∀ c ∈ cs, some c ∈ ks.map fun y => y.cps.toList.getLast?
  | [], x, _, c, hc => by cases hc
  | d :: cs, x, h, c, hc => by
    rw [List.foldl_cons] at h
    rcases List.mem_cons.mp hc with rfl | hc
    · by_cases hx : x ∈ ks
      · have e : stepN ks x c = takeS 6 x ++ ⟨#[c]⟩ := if_pos hx
        by_cases hn : stepN ks x c ∈ ks
        · refine List.mem_map.mpr ⟨_, hn, ?_⟩
          rw [e, cat_list]
          show (_ ++ [c]).getLast? = some c
          simp
        · rw [step_stay hn] at h
          exact absurd h hn
      · rw [show stepN ks x c = x from if_neg hx, step_stay hx] at h
        exact absurd h hx
    · exact step_last cs _ h c hc
theorem step_out {ks : List Str} {cs : List Nat} {x : Str} (nd : cs.Nodup) (hl : ks.length < cs.length) : cs.foldl (stepN ks) x ∉ ks := fun h => by
  have h1 := step_last cs x h
  have h2 := nodup_le (cs := cs.map some) (xs := ks.map fun y => y.cps.toList.getLast?) (List.Pairwise.map _ (fun a b hab z => hab (Option.some.inj z)) nd) fun c hc => by
    obtain ⟨d, hd, rfl⟩ := List.mem_map.mp hc
    exact h1 d hd
  rw [List.length_map, List.length_map] at h2
  omega
theorem step_nm {ks : List Str} {L : Nat} (hL : 6 ≤ L) : ∀ (cs : List Nat) (x : Str), NmL L x → (∀ c ∈ cs, signC c) → NmL L (cs.foldl (stepN ks) x)
  | [], x, h, _ => h
  | c :: cs, x, h, hc => by
    rw [List.foldl_cons]
    refine step_nm hL cs _ ?_ fun d hd => hc d (List.mem_cons_of_mem _ hd)
    unfold stepN
    by_cases hx : x ∈ ks
    · rw [if_pos hx]
      exact (h.take.add (hc c List.mem_cons_self)).mono hL
    · rw [if_neg hx]
      exact h
theorem six_signs : ∀ c ∈ ("0123456789abcdefghijklmnopqrstuvwxyz" : Str).cps.toList, signC c := by
  intro c hc
  have h : ("0123456789abcdefghijklmnopqrstuvwxyz" : Str).cps.toList = [48, 49, 50, 51, 52, 53, 54, 55, 56, 57, 97, 98, 99, 100, 101, 102, 103, 104, 105, 106, 107, 108, 109, 110, 111, 112, 113, 114, 115, 116, 117, 118, 119, 120, 121, 122] := by decide +kernel
  rw [h] at hc
  unfold signC letterC
  simp only [List.mem_cons, List.mem_nil_iff, or_false] at hc
  omega
theorem v_ref {s : S} {n : Nat} : (s.mo[n]?).isNone = true → view s (.ref n) = .ref n := fun h => by
  show (match s.mo[n]? with
    | some (.lst xs) => D.lst xs
    | some (.dK ks vs) => .dct ks vs
    | some (.dT ks vs) => .dct ks vs
    | some (.ins c vs) => .inst c vs
    | _ => .ref n) = _
  rw [Option.isNone_iff_eq_none.mp h]
/-- one more name -/
theorem name_step {s t : S} {i m many : Nat} {ks : List Str} {x3 x4 x5 : Option D} (hi : i < s.mo.length) (h : NI s i m ks t) (hm : m + 10 * ks.length < 2 ^ 39) (hk : ks.length < 30) :
    ∃ e' t' nm, B__law_b_names_3 [some (.ref i), some (.int many), some (.ref s.mo.length), x3, x4, x5] t = .next e' t' ∧ (∃ y3 y4 y5, e' = [some (.ref i), some (.int many), some (.ref s.mo.length), y3, y4, y5]) ∧ NI s i m (ks ++ [nm]) t' := by
  have hN : s.mo.length ≠ i := Nat.ne_of_gt hi
  obtain ⟨vs, hd, hv⟩ := h.dict
  -- the first sign
  obtain ⟨c1, t1, hc1, e1, d1⟩ := pickS (z := "abgkmqvz") h.sp (by omega) (by decide +kernel) (by decide +kernel)
  have l1 : letterC c1 := by
    have hz : ("abgkmqvz" : Str).cps.toList = [97, 98, 103, 107, 109, 113, 118, 122] := by decide +kernel
    rw [hz] at hc1
    unfold letterC
    simp only [List.mem_cons, List.mem_nil_iff, or_false] at hc1
    omega
  have hd1 := (d1.old hN).trans hd
  -- an older one's beginning
  have stepB : ∃ nm t2, (sIf (DV.tAnd (tTr (xVar 2)) (tVal (xBin gEq (xCall F__law_draw (aCons (xVar 0) (aCons (xC (.int 3)) aNil))) (xC (.int 0))))) (sAsg (xBin gAdd (xSlice (xCall F__law_pick (aCons (xVar 0) (aCons (xFz (aCallN (fn1 gList) (aCons (xVar 2) aNil))) aNil))) pNo (pAt (xC (.int 6)))) (xCall F__law_pick (aCons (xVar 0) (aCons (xFz (aLst (aCons (xC (.str "0")) (aCons (xC (.str "9")) (aCons (xC (.str "a")) (aCons (xC (.str "z")) (aCons (xC (.str "m")) aNil))))))) aNil)))) (gVar 3)) sNext)
      [some (.ref i), some (.int many), some (.ref s.mo.length), some (.str ⟨#[c1]⟩), x4, x5] t1 = .next [some (.ref i), some (.int many), some (.ref s.mo.length), some (.str nm), x4, x5] t2 ∧ NmL 6 nm ∧ Drew t1 i (m + 10 * ks.length + 4) t2 := by
    by_cases hks : ks = []
    · subst hks
      refine ⟨⟨#[c1]⟩, t1, ?_, (NmL.one l1).mono (by omega), .refl (spr_le d1.spr (by omega))⟩
      simp only [RUN, tru_refK hd1, List.map_nil, List.isEmpty_nil, Bool.not_true]
    · obtain ⟨k, t2, e2, k0, k1, d2⟩ := draw_ok (n := 3) d1.spr (by omega) (by decide) (by decide)
      have tr : (!(ks.map D.str).isEmpty) = true := by
        cases ks with
        | nil => exact absurd rfl hks
        | cons _ _ => rfl
      by_cases hk0 : k = 0
      · subst hk0
        have hd2 := (d2.old hN).trans hd1
        obtain ⟨x, t3, hx, e3, d3⟩ := pick_ok (xs := ks.map D.str) d2.spr (by omega) (by simpa using hks) (by rw [List.length_map]; omega) (fun x hx => by
          obtain ⟨z, _, rfl⟩ := List.mem_map.mp hx
          rfl)
        obtain ⟨z, hz, rfl⟩ := List.mem_map.mp hx
        obtain ⟨y, t4, hy, e4, d4⟩ := pick_ok (xs := [.str "0", .str "9", .str "a", .str "z", .str "m"]) d3.spr (by omega) (by simp) (by simp) (fun x hx => by
          simp only [List.mem_cons, List.mem_nil_iff, or_false] at hx
          rcases hx with rfl | rfl | rfl | rfl | rfl <;> rfl)
        have hy2 : ∃ c, y = .str ⟨#[c]⟩ ∧ signC c := by
          have z0 : ("0" : Str) = ⟨#[48]⟩ := by decide +kernel
          have z9 : ("9" : Str) = ⟨#[57]⟩ := by decide +kernel
          have za : ("a" : Str) = ⟨#[97]⟩ := by decide +kernel
          have zz : ("z" : Str) = ⟨#[122]⟩ := by decide +kernel
          have zm : ("m" : Str) = ⟨#[109]⟩ := by decide +kernel
          simp only [List.mem_cons, List.mem_nil_iff, or_false] at hy
          unfold signC letterC
          rcases hy with rfl | rfl | rfl | rfl | rfl
          · exact ⟨48, by rw [z0], by omega⟩
          · exact ⟨57, by rw [z9], by omega⟩
          · exact ⟨97, by rw [za], by omega⟩
          · exact ⟨122, by rw [zz], by omega⟩
          · exact ⟨109, by rw [zm], by omega⟩
        obtain ⟨c, rfl, hc⟩ := hy2
        have gz := h.good z hz
        have lz := gz.len
        have g2 : NmL 6 (takeS 6 z ++ ⟨#[c]⟩) := (gz.take (k := 5)).add hc
        have l5 : decide ([D.str "0", D.str "9", D.str "a", D.str "z", D.str "m"].length ≤ sizeLine) = true := rfl
        have cut : sliceD (.str z) none (some 6) = some (.str (takeS 6 z)) := o_cutS (k := 6) (by rw [line]; omega)
        have cat : ∀ s : S, gAdd s (.str (takeS 6 z)) (.str ⟨#[c]⟩) = some (.str (takeS 6 z ++ ⟨#[c]⟩)) := fun s => o_addS (by
          have := (show NmL 5 (takeS 6 z) from gz.take (k := 5)).len
          have z1 : Str.length ⟨#[c]⟩ = 1 := rfl
          rw [line]
          omega)
        refine ⟨takeS 6 z ++ ⟨#[c]⟩, t4, ?_, g2, ((d2.trans d3).trans d4).le (by omega)⟩
        simp only [RUN, tru_refK hd1, tr, e2, decide_true, list_refK hd2, e3, l5, e4, cut, cat]
      · refine ⟨⟨#[c1]⟩, t2, ?_, (NmL.one l1).mono (by omega), d2.le (by omega)⟩
        simp only [RUN, tru_refK hd1, tr, e2, decide_eq_false hk0]
  obtain ⟨nm2, t2, e2, g2, d2⟩ := stepB
  -- some more signs
  obtain ⟨n3, t3, e3, n30, n31, d3⟩ := draw_ok (n := 4) d2.spr (by omega) (by decide) (by decide)
  have rng : ixRng1 (aCons (xCall F__law_draw (aCons (xVar 0) (aCons (xC (.int 4)) aNil))) aNil) [some (.ref i), some (.int many), some (.ref s.mo.length), some (.str nm2), x4, x5] t2 = .ok ⟨rngD 0 n3.toNat, []⟩ t3 := by
    unfold ixRng1
    simp only [RUN, e3]
    show (if -(2 ^ 62) ≤ n3 ∧ n3 < 2 ^ 62 then Out.ok (⟨rngD 0 n3.toNat, []⟩ : Wk) t3 else .stuck) = _
    rw [if_pos (by omega)]
  obtain ⟨e4, t4, run4, ⟨nm4, y4, he4, g4⟩, d4⟩ := for_run (g := gVar 4) (body := B__law_b_names_0) (w := ⟨rngD 0 n3.toNat, []⟩) (e := [some (.ref i), some (.int many), some (.ref s.mo.length), some (.str nm2), x4, x5]) (s := t3) (ds := rngD 0 n3.toNat)
    (fun ds e t => (∃ nm y4, e = [some (.ref i), some (.int many), some (.ref s.mo.length), some (.str nm), y4, x5] ∧ NmL (9 - ds.length) nm) ∧ ds.length ≤ 3 ∧ Drew t3 i (m + 10 * ks.length + 8 - ds.length) t)
    ⟨⟨nm2, x4, rfl, g2.mono (by rw [rng_len]; omega)⟩, by rw [rng_len]; omega, .refl (spr_le d3.spr (by rw [rng_len]; omega))⟩ (fun _ _ _ _ => same_nil) (fun y ds e t ⟨⟨nm, y4, he, g⟩, hl, d⟩ => by
    subst he
    have hl : ds.length + 1 ≤ 3 := hl
    obtain ⟨c, t', hc, e5, d5⟩ := pickS (z := "aehinsuxyz057") d.spr (by rw [List.length_cons]; omega) (by decide +kernel) (by decide +kernel)
    have sc : signC c := by
      have hz : ("aehinsuxyz057" : Str).cps.toList = [97, 101, 104, 105, 110, 115, 117, 120, 121, 122, 48, 53, 55] := by decide +kernel
      rw [hz] at hc
      unfold signC letterC
      simp only [List.mem_cons, List.mem_nil_iff, or_false] at hc
      omega
    have ll : ("aehinsuxyz057" : Str).length ≤ sizeLine := by decide +kernel
    have cat : ∀ s : S, gAdd s (.str nm) (.str ⟨#[c]⟩) = some (.str (nm ++ ⟨#[c]⟩)) := fun s => o_addS (by
      have := g.len
      have z1 : Str.length ⟨#[c]⟩ = 1 := rfl
      rw [line]
      omega)
    refine ⟨_, _, rfl, [some (.ref i), some (.int many), some (.ref s.mo.length), some (.str (nm ++ ⟨#[c]⟩)), some y, x5], t', ?_, ⟨_, _, rfl, (g.add sc).mono (by rw [List.length_cons]; omega)⟩, by omega, (d.trans d5).le (by rw [List.length_cons]; omega)⟩
    simp only [B__law_b_names_0, RUN, o_listS ll, e5, cat])
  obtain ⟨_, d4⟩ := d4
  subst he4
  have g5 := g4.take (k := 6)
  have cut7 : sliceD (.str nm4) none (some 7) = some (.str (takeS 7 nm4)) := o_cutS (k := 7) (by have := g4.len; rw [line]; omega)
  have hd4 : t4.mo[s.mo.length]? = some (.dK (ks.map D.str) vs) := (d4.old hN).trans ((d3.old hN).trans ((d2.old hN).trans hd1))
  -- a name that is not there
  obtain ⟨e6, t6, run6, ⟨nm6, y5, he6, g6⟩, ht6⟩ := for_run (g := gVar 5) (body := B__law_b_names_1) (w := ⟨signsD "0123456789abcdefghijklmnopqrstuvwxyz", []⟩) (e := [some (.ref i), some (.int many), some (.ref s.mo.length), some (.str (takeS 7 nm4)), y4, x5]) (s := t4) (ds := signsD "0123456789abcdefghijklmnopqrstuvwxyz")
    (fun ds e t => (∃ nm y5, e = [some (.ref i), some (.int many), some (.ref s.mo.length), some (.str nm), y4, y5] ∧ ∃ cs : List Nat, ds = cs.map (fun c => D.str ⟨#[c]⟩) ∧ (∀ c ∈ cs, signC c) ∧ NmL 6 nm ∧ cs.foldl (stepN ks) nm = ("0123456789abcdefghijklmnopqrstuvwxyz" : Str).cps.toList.foldl (stepN ks) (takeS 7 nm4)) ∧ t = t4)
    ⟨⟨_, _, rfl, _, rfl, six_signs, g5, rfl⟩, rfl⟩ (fun _ _ _ _ => same_nil) (fun y ds e t ⟨⟨nm, y5, he, cs, hcs, hsc, g, hf⟩, ht⟩ => by
    subst he ht
    cases cs with
    | nil => cases hcs
    | cons c cs =>
      injection hcs with h1 h2
      subst h1 h2
      rw [List.foldl_cons] at hf
      have gi : gIn t (.str nm) (.ref s.mo.length) = some (.bl (decide (nm ∈ ks))) := in_refS hd4 hv
      refine ⟨_, _, rfl, [some (.ref i), some (.int many), some (.ref s.mo.length), some (.str (stepN ks nm c)), y4, some (.str ⟨#[c]⟩)], t, ?_, ⟨_, _, rfl, cs, rfl, fun d hd => hsc d (List.mem_cons_of_mem _ hd), ?_, hf⟩, rfl⟩
      · have cut : sliceD (.str nm) none (some 6) = some (.str (takeS 6 nm)) := o_cutS (k := 6) (by have := g.len; rw [line]; omega)
        have cat : ∀ s : S, gAdd s (.str (takeS 6 nm)) (.str ⟨#[c]⟩) = some (.str (takeS 6 nm ++ ⟨#[c]⟩)) := fun s => o_addS (by
          have := (show NmL 5 (takeS 6 nm) from g.take (k := 5)).len
          have z1 : Str.length ⟨#[c]⟩ = 1 := rfl
          rw [line]
          omega)
        by_cases hx : nm ∈ ks
        · have e : stepN ks nm c = takeS 6 nm ++ ⟨#[c]⟩ := if_pos hx
          simp only [B__law_b_names_1, RUN, gi, decide_eq_true hx, cut, cat, e]
        · have e : stepN ks nm c = nm := if_neg hx
          simp only [B__law_b_names_1, RUN, gi, decide_eq_false hx, e]
      · exact step_nm (Nat.le_refl _) [c] nm g fun d hd => hsc d (by rw [List.mem_singleton.mp hd]; exact List.mem_cons_self))
  subst ht6
  obtain ⟨cs, hcs, _, g6, hf⟩ := g6
  have hcs : cs = [] := by
    cases cs with
    | nil => rfl
    | cons _ _ => cases hcs
  subst hcs he6
  have out : nm6 ∉ ks := by
    rw [show nm6 = _ from hf]
    refine step_out ?_ ?_
    · decide +kernel
    · have : ("0123456789abcdefghijklmnopqrstuvwxyz" : Str).cps.toList.length = 36 := by decide +kernel
      omega
  have gi : gIn t6 (.str nm6) (.ref s.mo.length) = some (.bl false) := by
    rw [in_refS hd4 hv, decide_eq_false out]
  have st : mSet t6 (.ref s.mo.length) (.str nm6) (.int 1) = some (t6.put s.mo.length (.dK ((ks ++ [nm6]).map D.str) (vs ++ [.int 1]))) := by
    rw [set_refK (q := .inr nm6) hd4 rfl (by rw [List.length_map, line]; omega) rfl, put_str hv out]
  refine ⟨[some (.ref i), some (.int many), some (.ref s.mo.length), some (.str nm6), y4, y5], t6.put s.mo.length (.dK ((ks ++ [nm6]).map D.str) (vs ++ [.int 1])), nm6, ?_, ⟨_, _, _, rfl⟩, ?_⟩
  rotate_left
  · have dd := ((d1.trans d2).trans d3).trans d4
    refine ⟨dd.tg.trans h.tg, by rw [put_len, dd.len]; exact h.len, fun j j1 j2 => ?_, ?_, ⟨_, put_get hd4, by rw [List.length_append, List.length_append, hv]; rfl⟩, ?_, fun x hx => ?_⟩
    · rw [put_ne (Nat.ne_of_gt j2), dd.old j1]
      exact h.old j j1 j2
    · refine spr_put (spr_le dd.spr ?_) hN
      rw [List.length_append, List.length_singleton]
      omega
    · rw [List.nodup_append]
      exact ⟨h.nd, by simp, fun a ha b hb => by rw [List.mem_singleton.mp hb]; exact fun z => out (z ▸ ha)⟩
    · rcases List.mem_append.mp hx with hx | hx
      · exact h.good x hx
      · rw [List.mem_singleton.mp hx]
        exact g6
  · have ll : ("abgkmqvz" : Str).length ≤ sizeLine := by decide +kernel
    have lv : ∀ s : S, view s (.str "0123456789abcdefghijklmnopqrstuvwxyz") = .str "0123456789abcdefghijklmnopqrstuvwxyz" := fun _ => rfl
    have s1 : sAsg (xCall F__law_pick (aCons (xVar 0) (aCons (xFz (aCallN (fn1 gList) (aCons (xC (.str "abgkmqvz")) aNil))) aNil))) (gVar 3) [some (.ref i), some (.int many), some (.ref s.mo.length), x3, x4, x5] t = .next [some (.ref i), some (.int many), some (.ref s.mo.length), some (.str ⟨#[c1]⟩), x4, x5] t1 := by
      simp only [RUN, o_listS ll, e1]
    unfold B__law_b_names_3
    rw [r_seq, s1, then_next, r_seq, e2, then_next]
    simp only [RUN, rng, run4, cut7, run6, gi, st]
/-- so many unlike names -/
theorem names_ok {s : S} {i m many : Nat} (sp : Spr s i m) (hm : m + 10 * many < 2 ^ 39) (hk : many ≤ 9) :
    ∃ (ks : List Str) (s' : S), F__law_b_names s [.ref i, .int (many : Int)] = .ok (.lst (ks.map D.str)) s' ∧ Drew s i (m + 10 * many) s' ∧ ks.length = many ∧ ks.Nodup ∧ ∀ x ∈ ks, NmL 6 x := by
  have hi := spr_lt sp
  have I0 : NI s i m [] (s.own (.dK [] [])) := ⟨rfl, own_len, fun j _ h => own_old h, spr_own sp, ⟨[], own_get, rfl⟩, .nil, fun x hx => by cases hx⟩
  have key := while_inv (t := T__law_b_names_2) (body := B__law_b_names_3)
    (fun n e t => ∃ ks y3 y4 y5, n + ks.length = many ∧ e = [some (.ref i), some (.int (many : Int)), some (.ref s.mo.length), y3, y4, y5] ∧ NI s i m ks t)
    (fun r => ∃ ks y3 y4 y5 t, r = .next [some (.ref i), some (.int (many : Int)), some (.ref s.mo.length), y3, y4, y5] t ∧ ks.length = many ∧ NI s i m ks t)
    (fun n e t ⟨ks, y3, y4, y5, hn, he, h⟩ => by
      subst he
      obtain ⟨vs, hd, hv⟩ := h.dict
      refine ⟨decide (ks.length < many), t, ?_, fun hb => ?_, fun hb => .inl ?_⟩
      · simp only [T__law_b_names_2, RUN, len_refK hd, List.length_map]
        congr 1
        simp
      · have := of_decide_eq_false hb
        exact ⟨ks, y3, y4, y5, t, rfl, by omega, h⟩
      · have := of_decide_eq_true hb
        obtain ⟨e', t', nm, e1, ⟨z3, z4, z5, e2⟩, h2⟩ := name_step (many := many) (x3 := y3) (x4 := y4) (x5 := y5) hi h (by omega) (by omega)
        exact ⟨n - 1, e', t', by omega, .inl e1, ks ++ [nm], z3, z4, z5, by rw [List.length_append, List.length_singleton]; omega, e2, h2⟩)
    1000000 many [some (.ref i), some (.int (many : Int)), some (.ref s.mo.length), none, none, none] (s.own (.dK [] [])) ⟨[], none, none, none, rfl, rfl, I0⟩ (by omega)
  obtain ⟨ks, y3, y4, y5, t, run, hl, h⟩ := key
  obtain ⟨vs, hd, hv⟩ := h.dict
  have sp' := h.sp
  rw [hl] at sp'
  refine ⟨ks, back s t, ?_, .back (by rw [h.len]; omega) h.old sp' hi, hl, h.nd, h.good⟩
  show endDef s (m__law_b_names [some (.ref i), some (.int (many : Int)), none, none, none, none] s) = _
  unfold m__law_b_names
  simp only [RUN, run, list_refK hd]
  exact fin_lst (lows_map fun x _ => rfl)
end K02
end
section
set_option Elab.async false
set_option linter.all false
set_option maxRecDepth 100000
set_option maxHeartbeats 4000000
namespace K02
open DV PySem
/-! ### the determinant: some number; 1 of no rows -/
def rowI (r : List Int) : D := .lst (r.map D.int)
theorem low_rowI {r : List Int} {n t : Nat} : (rowI r).low n t = true := lows_map fun _ _ => rfl
theorem lows_rowI {rs : List (List Int)} {n t : Nat} : D.lows n t (rs.map rowI) = true := lows_map fun _ _ => low_rowI
/-- n rows of n numbers of less than e bits -/
structure Sq (n e : Nat) (rs : List (List Int)) : Prop where
  len : rs.length = n
  row : ∀ r ∈ rs, r.length = n ∧ ∀ x ∈ r, x.natAbs < 2 ^ e
theorem Sq.mono {n e f : Nat} {rs : List (List Int)} (h : Sq n e rs) (he : e ≤ f) : Sq n f rs :=
  ⟨h.len, fun r hr => ⟨(h.row r hr).1, fun x hx => Nat.lt_of_lt_of_le ((h.row r hr).2 x hx) (Nat.pow_le_pow_right (by decide) he)⟩⟩
theorem Sq.set {n e i : Nat} {rs : List (List Int)} {r : List Int} (h : Sq n e rs) (hr : r.length = n) (hx : ∀ x ∈ r, x.natAbs < 2 ^ e) : Sq n e (rs.set i r) :=
  ⟨by rw [List.length_set]; exact h.len, fun q hq => by
    rcases List.mem_or_eq_of_mem_set hq with z | z
    · exact h.row q z
    · rw [z]
      exact ⟨hr, hx⟩⟩
def ent (rs : List (List Int)) (k p : Nat) : Int := (rs.getD k []).getD p 0
theorem Sq.at {n e k : Nat} {rs : List (List Int)} (h : Sq n e rs) (hk : k < n) : L2.atI (rs.map rowI) (k : Int) = some (rowI (rs.getD k [])) ∧ (rs.getD k []).length = n ∧ ∀ x ∈ rs.getD k [], x.natAbs < 2 ^ e := by
  have hk' : k < rs.length := by rw [h.len]; exact hk
  have e1 : rs.getD k [] = rs[k] := by
    rw [List.getD_eq_getElem?_getD, List.getElem?_eq_getElem hk']
    rfl
  rw [e1]
  refine ⟨?_, h.row _ (List.getElem_mem hk')⟩
  rw [atI_nat rfl (by rw [List.length_map]; exact hk')]
  simp
theorem at_row {r : List Int} {p : Nat} (hp : p < r.length) : L2.atI (r.map D.int) (p : Int) = some (.int (r.getD p 0)) := by
  rw [atI_nat rfl (by rw [List.length_map]; exact hp)]
  simp [List.getD_eq_getElem?_getD, List.getElem?_eq_getElem hp]
theorem getD_lt {r : List Int} {p e : Nat} (hp : p < r.length) (h : ∀ x ∈ r, x.natAbs < 2 ^ e) : (r.getD p 0).natAbs < 2 ^ e := by
  rw [List.getD_eq_getElem?_getD, List.getElem?_eq_getElem hp]
  exact h _ (List.getElem_mem hp)
theorem log_lt {x : Int} {e : Nat} (h : x.natAbs < 2 ^ e) (h0 : 0 < e) : x.natAbs.log2 < e := log2_lt h h0
theorem mul_fit {x y : Int} {e : Nat} (hx : x.natAbs < 2 ^ e) (hy : y.natAbs < 2 ^ e) (h0 : 0 < e) (he : e < 10000000) : nMul x y = some (.int (x * y)) := by
  refine mul_small ?_
  have := log_lt hx h0
  have := log_lt hy h0
  omega
theorem own_put {s : S} {o o' : MO} : (s.own o).put s.mo.length o' = s.own o' := by
  unfold S.own S.put
  congr 1
  show (s.mo ++ [o]).set s.mo.length o' = _
  rw [List.set_append_right _ _ (Nat.le_refl _), Nat.sub_self]
  rfl
theorem map_set {α β : Type} {f : α → β} {xs : List α} {i : Nat} {x : α} : (xs.map f).set i (f x) = (xs.set i x).map f := (List.map_set ..).symm
theorem ixN_nat {n k : Nat} (h : k < n) : L2.ixN n (k : Int) = some k := by
  unfold L2.ixN
  rw [if_pos (by omega), if_pos (by omega), Int.toNat_natCast]
theorem elim_bound {a b c d l : Int} {e : Nat} (ha : a.natAbs < 2 ^ e) (hb : b.natAbs < 2 ^ e) (hc : c.natAbs < 2 ^ e) (hd : d.natAbs < 2 ^ e) : ((a * b - c * d).fdiv l).natAbs < 2 ^ (2 * e + 2) := by
  refine Nat.lt_of_le_of_lt (Int.natAbs_fdiv_le_natAbs _ _) ?_
  have h1 : (a * b).natAbs < 2 ^ (e + e) := by
    rw [Int.natAbs_mul, Nat.pow_add]
    exact Nat.mul_lt_mul'' ha hb
  have h2 : (c * d).natAbs < 2 ^ (e + e) := by
    rw [Int.natAbs_mul, Nat.pow_add]
    exact Nat.mul_lt_mul'' hc hd
  have h3 : (a * b - c * d).natAbs ≤ (a * b).natAbs + (c * d).natAbs := by omega
  have h4 : 2 ^ (2 * e + 2) = 4 * 2 ^ (e + e) := by rw [show 2 * e + 2 = 2 + (e + e) by omega, Nat.pow_add]
  rw [h4]
  omega
/-- one row cleared -/
theorem det_inner {s : S} {n e p : Nat} {rs0 : List (List Int)} {last sign : Int} {rowsD x5 x7 x8 x9 : Option D} (sq : Sq n e rs0) (hp : p < n) (hn : n ≤ 9) (h0 : 0 < e) (he : e < 8000) (hl : last ≠ 0) (hll : last.natAbs < 2 ^ e) (top : List Int) (ht : top = rs0.getD p []) :
    ∃ rs' y7 y8, forRun (gVar 7) B__law_b_det_4 ⟨rngD ((p + 1 : Nat) : Int) (n - (p + 1)), []⟩ (rngD ((p + 1 : Nat) : Int) (n - (p + 1))) [rowsD, some (.ref s.mo.length), some (.int sign), some (.int last), some (.int (p : Int)), x5, some (rowI top), x7, x8, x9] (s.own (.lst (rs0.map rowI))) =
      .next [rowsD, some (.ref s.mo.length), some (.int sign), some (.int last), some (.int (p : Int)), x5, some (rowI top), y7, y8, x9] (s.own (.lst (rs'.map rowI))) ∧ Sq n (2 * e + 2) rs' := by
  have tl : top.length = n ∧ ∀ x ∈ top, x.natAbs < 2 ^ e := by
    rw [ht]
    exact (sq.at hp).2
  obtain ⟨e', s', run, rs', y7, y8, h1, h2, h3, _⟩ := for_run (g := gVar 7) (body := B__law_b_det_4) (w := ⟨rngD ((p + 1 : Nat) : Int) (n - (p + 1)), []⟩) (e := [rowsD, some (.ref s.mo.length), some (.int sign), some (.int last), some (.int (p : Int)), x5, some (rowI top), x7, x8, x9]) (s := s.own (.lst (rs0.map rowI))) (ds := rngD ((p + 1 : Nat) : Int) (n - (p + 1)))
    (fun ds ev t => ∃ rs y7 y8, ev = [rowsD, some (.ref s.mo.length), some (.int sign), some (.int last), some (.int (p : Int)), x5, some (rowI top), y7, y8, x9] ∧ t = s.own (.lst (rs.map rowI)) ∧ Sq n (2 * e + 2) rs ∧ ∃ a : Nat, ds = rngD (a : Int) (n - a) ∧ a ≤ n ∧ ∀ k, a ≤ k → rs.getD k [] = rs0.getD k [])
    ⟨rs0, x7, x8, rfl, rfl, sq.mono (by omega), p + 1, rfl, by omega, fun _ _ => rfl⟩ (fun _ _ _ _ => same_nil) (fun y ds ev t ⟨rs, y7, y8, h1, h2, h3, a, h4, h5, h6⟩ => by
    subst h1 h2
    have ha : a < n := by
      by_cases z : a < n
      · exact z
      · rw [show n - a = 0 by omega] at h4
        cases h4
    rw [show n - a = (n - (a + 1)) + 1 by omega, rng_cons] at h4
    injection h4 with h7 h8
    subst h7 h8
    have hg := (sq.at ha).2
    have g1 : gIx (s.own (.lst (rs.map rowI))) (.ref s.mo.length) (.int (a : Int)) = some (rowI (rs0.getD a [])) := by
      rw [ix_refL own_get, (h3.at ha).1, h6 a (Nat.le_refl _)]
    generalize hrow : rs0.getD a [] = row at hg g1
    have comp : ∀ t : S, aComp (ixRng1 (aCons (xCall (noX (f1 gLen)) (aCons (xVar 8) aNil)) aNil)) (.one 9) tAll E__law_b_det_3 [9] [rowsD, some (.ref s.mo.length), some (.int sign), some (.int last), some (.int (p : Int)), x5, some (rowI top), some (.int (a : Int)), some (rowI row), x9] t =
        .ok (((List.range n).map fun k => (row.getD k 0 * top.getD p 0 - row.getD p 0 * top.getD k 0).fdiv last).map D.int) t := fun t => by
      have ix : ixRng1 (aCons (xCall (noX (f1 gLen)) (aCons (xVar 8) aNil)) aNil) [rowsD, some (.ref s.mo.length), some (.int sign), some (.int last), some (.int (p : Int)), x5, some (rowI top), some (.int (a : Int)), some (rowI row), x9] t = .ok ⟨rngD 0 n, []⟩ t := by
        refine rng1 ?_ (by omega)
        simp only [RUN, rowI, List.length_map, hg.1]
      rw [aComp_map (rngD 0 n) (fun d => match d with | .int k => .int ((row.getD k.toNat 0 * top.getD p 0 - row.getD p 0 * top.getD k.toNat 0).fdiv last) | d => d) ix (by rw [rng_len, line]; omega)]
      · unfold rngD
        rw [List.map_map, List.map_map]
        refine congrArg (fun l => Out.ok l t) (List.map_congr_left fun k _ => ?_)
        show D.int _ = D.int _
        rw [show ((0 : Int) + (k : Int)).toNat = k by omega]
      · intro d hd
        obtain ⟨k, hk, rfl⟩ := rng_mem hd
        have m1 := mul_fit (getD_lt (by omega) hg.2 : (row.getD k 0).natAbs < 2 ^ e) (getD_lt (by omega) tl.2 : (top.getD p 0).natAbs < 2 ^ e) h0 (by omega)
        have m2 := mul_fit (getD_lt (by omega) hg.2 : (row.getD p 0).natAbs < 2 ^ e) (getD_lt (by omega) tl.2 : (top.getD k 0).natAbs < 2 ^ e) h0 (by omega)
        have dv : ∀ x : Int, nDiv x last = some (.int (x.fdiv last)) := fun x => div_ok hl (by have := log_lt hll h0; omega)
        have z : (0 : Int) + (k : Int) = (k : Int) := by omega
        refine ⟨_, rfl, ?_⟩
        rw [z]
        simp only [E__law_b_det_3, RUN, rowI, at_row (show k < row.length by omega), at_row (show p < row.length by omega), at_row (show k < top.length by omega), at_row (show p < top.length by omega), m1, m2, dv, Int.toNat_natCast]
    generalize hnew : ((List.range n).map fun k => (row.getD k 0 * top.getD p 0 - row.getD p 0 * top.getD k 0).fdiv last) = new at comp
    have hnl : new.length = n := by rw [← hnew, List.length_map, List.length_range]
    have hnb : ∀ x ∈ new, x.natAbs < 2 ^ (2 * e + 2) := fun x hx => by
      rw [← hnew] at hx
      obtain ⟨k, hk, rfl⟩ := List.mem_map.mp hx
      have hk := List.mem_range.mp hk
      exact elim_bound (getD_lt (by omega) hg.2) (getD_lt (by omega) tl.2) (getD_lt (by omega) hg.2) (getD_lt (by omega) tl.2)
    have st : mSet (s.own (.lst (rs.map rowI))) (.ref s.mo.length) (.int (a : Int)) (rowI new) = some (s.own (.lst ((rs.set a new).map rowI))) := by
      rw [set_refL own_get (ixN_nat (by rw [List.length_map, h3.len]; exact ha)) low_rowI, own_put, map_set]
    refine ⟨_, _, rfl, [rowsD, some (.ref s.mo.length), some (.int sign), some (.int last), some (.int (p : Int)), x5, some (rowI top), some (.int (a : Int)), some (rowI row), x9], s.own (.lst ((rs.set a new).map rowI)), ?_, rs.set a new, _, _, rfl, rfl, h3.set hnl hnb, a + 1, ?_, ha, fun k hk => ?_⟩
    · have st' : mSet (s.own (.lst (rs.map rowI))) (.ref s.mo.length) (.int (a : Int)) (.lst (new.map D.int)) = some (s.own (.lst ((rs.set a new).map rowI))) := st
      simp only [B__law_b_det_4, RUN, g1, comp, st']
    · rfl
    · rw [List.getD_eq_getElem?_getD, List.getElem?_set_ne (by omega), ← List.getD_eq_getElem?_getD]
      exact h6 k (by omega))
  subst h1 h2
  exact ⟨rs', y7, y8, run, h3⟩
def eb : Nat → Nat
  | 0 => 4
  | p + 1 => 2 * eb p + 2
theorem eb_pos : ∀ p, 4 ≤ eb p
  | 0 => Nat.le_refl _
  | p + 1 => by
    have := eb_pos p
    show 4 ≤ 2 * eb p + 2
    omega
theorem eb_small {p : Nat} (h : p ≤ 9) : eb p < 8000 := by
  match p, h with
  | 0, _ | 1, _ | 2, _ | 3, _ | 4, _ | 5, _ | 6, _ | 7, _ | 8, _ | 9, _ => decide
  | p + 10, h => omega
theorem back_ownS {s : S} {o : MO} : back s (s.own o) = s := by
  refine back_own ?_
  show (s.mo ++ [o]).take s.mo.length = s.mo
  rw [List.take_left]
theorem det_step {s : S} {n p : Nat} {rs : List (List Int)} {last sign : Int} {rowsD x4 x5 x6 x7 x8 x9 : Option D} (sq : Sq n (eb p) rs) (hp : p < n) (hn : n ≤ 9) (hl : last ≠ 0) (hll : last.natAbs < 2 ^ eb p) :
    (∃ ev, B__law_b_det_5 [rowsD, some (.ref s.mo.length), some (.int sign), some (.int last), some (.int (p : Int)), x5, x6, x7, x8, x9] (s.own (.lst (rs.map rowI))) = .ret (.int 0) (s.own (.lst ev))) ∨
    ∃ rs' sign' last' y5 y6 y7 y8, B__law_b_det_5 [rowsD, some (.ref s.mo.length), some (.int sign), some (.int last), some (.int (p : Int)), x5, x6, x7, x8, x9] (s.own (.lst (rs.map rowI))) =
      .next [rowsD, some (.ref s.mo.length), some (.int sign'), some (.int last'), some (.int (p : Int)), y5, y6, y7, y8, x9] (s.own (.lst (rs'.map rowI))) ∧ Sq n (eb (p + 1)) rs' ∧ (sign' = sign ∨ sign' = -sign) ∧ last' ≠ 0 ∧ last'.natAbs < 2 ^ eb p := by
  have hps := eb_small (p := p) (by omega)
  have hpp := eb_pos p
  have lenN : ∀ ev, gLen (s.own (.lst ev)) (.ref s.mo.length) = some (.int (ev.length : Nat)) := fun ev => len_refL own_get
  have ixN : ∀ ev k, gIx (s.own (.lst ev)) (.ref s.mo.length) (.int k) = L2.atI ev k := fun ev k => ix_refL own_get
  have comp : aComp (ixRng2 (aCons (xVar 4) (aCons (xCall (noX (f1 gLen)) (aCons (xVar 1) aNil)) aNil))) (.one 7) T__law_b_det_1 E__law_b_det_2 [7] [rowsD, some (.ref s.mo.length), some (.int sign), some (.int last), some (.int (p : Int)), x5, x6, x7, x8, x9] (s.own (.lst (rs.map rowI))) =
      .ok (((rngD (p : Int) (n - p)).filter fun d => match d with | .int k => !decide (ent rs k.toNat p = 0) | _ => false)) (s.own (.lst (rs.map rowI))) := by
    have ix : ixRng2 (aCons (xVar 4) (aCons (xCall (noX (f1 gLen)) (aCons (xVar 1) aNil)) aNil)) [rowsD, some (.ref s.mo.length), some (.int sign), some (.int last), some (.int (p : Int)), x5, x6, x7, x8, x9] (s.own (.lst (rs.map rowI))) = .ok ⟨rngD (p : Int) (n - p), []⟩ (s.own (.lst (rs.map rowI))) := by
      refine rng2 ?_ (by omega) (by omega)
      simp only [RUN, lenN, List.length_map, sq.len]
    rw [aComp_if (rngD (p : Int) (n - p)) (fun d => match d with | .int k => !decide (ent rs k.toNat p = 0) | _ => false) id ix (by rw [rng_len, line]; omega), List.map_id]
    intro d hd
    obtain ⟨k, hk, rfl⟩ := rng_mem hd
    have hk2 : p + k < n := by omega
    have z : (p : Int) + (k : Int) = ((p + k : Nat) : Int) := by omega
    rw [z]
    obtain ⟨a1, a2, a3⟩ := sq.at hk2
    refine ⟨_, rfl, ?_, fun _ => ?_⟩
    · simp only [T__law_b_det_1, RUN, ixN, a1, rowI, at_row (show p < (rs.getD (p + k) []).length by omega), Int.toNat_natCast]
      rfl
    · simp only [E__law_b_det_2, RUN]
      rfl
  cases hf : ((rngD (p : Int) (n - p)).filter fun d => match d with | .int k => !decide (ent rs k.toNat p = 0) | _ => false) with
  | nil =>
    rw [hf] at comp
    refine .inl ⟨rs.map rowI, ?_⟩
    simp only [B__law_b_det_5, RUN, comp, List.isEmpty_nil, Bool.not_true, Bool.not_false]
  | cons d ds =>
    rw [hf] at comp
    have hm : d ∈ ((rngD (p : Int) (n - p)).filter fun d => match d with | .int k => !decide (ent rs k.toNat p = 0) | _ => false) := by rw [hf]; exact List.mem_cons_self
    obtain ⟨hd1, hd2⟩ := List.mem_filter.mp hm
    obtain ⟨k, hk, rfl⟩ := rng_mem hd1
    have z : (p : Int) + (k : Int) = ((p + k : Nat) : Int) := by omega
    rw [z] at hd2 comp
    clear hf hm hd1 z
    have hk2 : p + k < n := by omega
    generalize p + k = q at *
    have hq : ent rs q p ≠ 0 := by simpa using hd2
    obtain ⟨a1, a2, a3⟩ := sq.at hk2
    obtain ⟨b1, b2, b3⟩ := sq.at hp
    -- the rows with the right one in its place
    have fin : ∀ (rs1 : List (List Int)) (sign1 : Int) (x5 x6 x7 x8 : Option D), Sq n (eb p) rs1 → ent rs1 p p ≠ 0 → (sign1 = sign ∨ sign1 = -sign) → ∃ rs' y7 y8, (sSeq (sAsg (xBin gIx (xVar 1) (xVar 4)) (gVar 6)) (sSeq (sFor (ixRng2 (aCons (xBin gAdd (xVar 4) (xC (.int 1))) (aCons (xCall (noX (f1 gLen)) (aCons (xVar 1) aNil)) aNil))) (gVar 7) B__law_b_det_4) (sAsg (xBin gIx (xVar 6) (xVar 4)) (gVar 3))))
        [rowsD, some (.ref s.mo.length), some (.int sign1), some (.int last), some (.int (p : Int)), x5, x6, x7, x8, x9] (s.own (.lst (rs1.map rowI))) = .next [rowsD, some (.ref s.mo.length), some (.int sign1), some (.int (ent rs1 p p)), some (.int (p : Int)), x5, some (rowI (rs1.getD p [])), y7, y8, x9] (s.own (.lst (rs'.map rowI))) ∧ Sq n (eb (p + 1)) rs' := fun rs1 sign1 x5 x6 x7 x8 sq1 h1 h2 => by
      obtain ⟨c1, c2, c3⟩ := sq1.at hp
      obtain ⟨rs', y7, y8, run, sq2⟩ := det_inner (s := s) (rowsD := rowsD) (sign := sign1) (x5 := x5) (x7 := x7) (x8 := x8) (x9 := x9) sq1 hp hn (by omega) hps hl hll (rs1.getD p []) rfl
      refine ⟨rs', y7, y8, ?_, sq2⟩
      have ix : ixRng2 (aCons (xBin gAdd (xVar 4) (xC (.int 1))) (aCons (xCall (noX (f1 gLen)) (aCons (xVar 1) aNil)) aNil)) [rowsD, some (.ref s.mo.length), some (.int sign1), some (.int last), some (.int (p : Int)), x5, some (rowI (rs1.getD p [])), x7, x8, x9] (s.own (.lst (rs1.map rowI))) = .ok ⟨rngD ((p + 1 : Nat) : Int) (n - (p + 1)), []⟩ (s.own (.lst (rs1.map rowI))) := by
        refine rng2 ?_ (by omega) (by omega)
        simp only [RUN, lenN, List.length_map, sq1.len]
        rfl
      have c4 : gIx (s.own (.lst (rs'.map rowI))) (rowI (rs1.getD p [])) (.int (p : Int)) = some (.int (ent rs1 p p)) := at_row (show p < (rs1.getD p []).length by omega)
      simp only [RUN, ixN, c1, ix, run, c4]
    have l1 : ∀ t, gIx t (.lst (.int (q : Int) :: ds)) (.int 0) = some (.int (q : Int)) := fun t => at0
    have te : truD (s.own (.lst (rs.map rowI))) (.lst (.int (q : Int) :: ds)) = some true := rfl
    by_cases hqp : q = p
    · subst hqp
      obtain ⟨rs', y7, y8, run, sq2⟩ := fin rs sign (some (.lst (.int (q : Int) :: ds))) x6 x7 x8 sq hq (.inl rfl)
      refine .inr ⟨rs', sign, ent rs q q, some (.lst (.int (q : Int) :: ds)), some (rowI (rs.getD q [])), y7, y8, ?_, sq2, .inl rfl, hq, getD_lt (by omega) a3⟩
      unfold B__law_b_det_5
      have hne : decide ((q : Int) = (q : Int)) = true := decide_eq_true rfl
      simp only [r_seq, r_sIf, r_asg, r_fz, comp, bind_ok, fl_ok, r_gVar, r_gAsg, then_next, s_0, s_S, r_not, r_tr, r_var, g_0, g_S, of_some, te, Bool.not_true, cIf_f, r_next, r_val, r_bin, r_C, l1, o_neI, bv_bl, hne]
      simp only [r_seq] at run
      exact run
    · have hne : decide ((q : Int) = (p : Int)) = false := decide_eq_false (by omega)
      have st1 : mSet (s.own (.lst (rs.map rowI))) (.ref s.mo.length) (.int (p : Int)) (rowI (rs.getD q [])) = some (s.own (.lst ((rs.set p (rs.getD q [])).map rowI))) := by
        rw [set_refL own_get (ixN_nat (by rw [List.length_map, sq.len]; exact hp)) low_rowI, own_put, map_set]
      have st2 : mSet (s.own (.lst ((rs.set p (rs.getD q [])).map rowI))) (.ref s.mo.length) (.int (q : Int)) (rowI (rs.getD p [])) = some (s.own (.lst (((rs.set p (rs.getD q [])).set q (rs.getD p [])).map rowI))) := by
        rw [set_refL own_get (ixN_nat (by rw [List.length_map, List.length_set, sq.len]; exact hk2)) low_rowI, own_put, map_set]
      have sq1 : Sq n (eb p) ((rs.set p (rs.getD q [])).set q (rs.getD p [])) := (sq.set a2 a3).set b2 b3
      have hent : ent ((rs.set p (rs.getD q [])).set q (rs.getD p [])) p p ≠ 0 := by
        unfold ent
        rw [List.getD_eq_getElem?_getD (l := (rs.set p (rs.getD q [])).set q (rs.getD p [])), List.getElem?_set_ne hqp, List.getElem?_set_self (by rw [sq.len]; exact hp)]
        exact hq
      obtain ⟨rs', y7, y8, run, sq2⟩ := fin _ (-sign) (some (.lst (.int (q : Int) :: ds))) x6 x7 x8 sq1 hent (.inr rfl)
      refine .inr ⟨rs', -sign, ent ((rs.set p (rs.getD q [])).set q (rs.getD p [])) p p, some (.lst (.int (q : Int) :: ds)), some (rowI (((rs.set p (rs.getD q [])).set q (rs.getD p [])).getD p [])), y7, y8, ?_, sq2, .inr rfl, hent, getD_lt (by have := (sq1.at hp).2.1; omega) (sq1.at hp).2.2⟩
      unfold B__law_b_det_5
      have l2 : ∀ a b : D, decide ([a, b].length ≤ sizeLine) = true := fun _ _ => rfl
      simp only [r_seq, r_sIf, r_asg, r_fz, comp, bind_ok, fl_ok, r_gVar, r_gAsg, then_next, s_0, s_S, r_not, r_tr, r_var, g_0, g_S, of_some, te, Bool.not_true, cIf_f, cIf_t, Bool.not_false, r_next, r_val, r_bin, r_C, l1, o_neI, bv_bl, hne, r_tup, r_cons, r_nil, ixN, a1, b1, l2, r_gUnp2, r_gsCons, r_gsNil, r_gSet, st1, st2, r_un, o_negI] at run ⊢
      exact run
theorem det_ok {s : S} {n : Nat} {rs : List (List Int)} (sq : Sq n 4 rs) (hn : n ≤ 9) : ∃ k : Int, F__law_b_det s [.lst (rs.map rowI)] = .ok (.int k) s ∧ (n = 0 → k = 1) := by
  have comp : aComp (ixSeq (xVar 0)) (.one 8) tAll E__law_b_det_0 [8] [some (.lst (rs.map rowI)), none, none, none, none, none, none, none, none, none] s = .ok (rs.map rowI) s := by
    rw [aComp_map (rs.map rowI) id (by simp only [RUN]) (by rw [List.length_map, sq.len, line]; omega), List.map_id]
    intro d hd
    obtain ⟨r, _, rfl⟩ := List.mem_map.mp hd
    exact ⟨_, rfl, by simp only [E__law_b_det_0, RUN, rowI]; rfl⟩
  have key := for_inv (g := gVar 4) (body := B__law_b_det_5) (w := ⟨rngD 0 n, []⟩)
    (fun ds ev t => ∃ (p : Nat) (rs' : List (List Int)) (sign last : Int) (x4 x5 x6 x7 x8 x9 : Option D), ds = rngD (p : Int) (n - p) ∧ p ≤ n ∧ ev = [some (.lst (rs.map rowI)), some (.ref s.mo.length), some (.int sign), some (.int last), x4, x5, x6, x7, x8, x9] ∧ t = s.own (.lst (rs'.map rowI)) ∧ Sq n (eb p) rs' ∧ sign.natAbs = 1 ∧ last ≠ 0 ∧ last.natAbs < 2 ^ eb p ∧ (n = 0 → sign = 1 ∧ last = 1))
    (fun r => (∃ ev, r = .ret (.int 0) (s.own (.lst ev)) ∧ n ≠ 0) ∨ ∃ rs' sign last x4 x5 x6 x7 x8 x9, r = .next [some (.lst (rs.map rowI)), some (.ref s.mo.length), some (.int sign), some (.int last), x4, x5, x6, x7, x8, x9] (s.own (.lst rs')) ∧ sign.natAbs = 1 ∧ last.natAbs < 2 ^ 8000 ∧ (n = 0 → sign = 1 ∧ last = 1))
    (fun _ _ _ _ => same_nil) (fun d ds ev t ⟨p, rs', sign, last, x4, x5, x6, x7, x8, x9, h1, h2, h3, h4, h5, h6, h7, h8, h9⟩ => by
      subst h3 h4
      have hp : p < n := by
        by_cases z : p < n
        · exact z
        · rw [show n - p = 0 by omega] at h1
          cases h1
      rw [show n - p = (n - (p + 1)) + 1 by omega, rng_cons] at h1
      injection h1 with h10 h11
      subst h10 h11
      refine ⟨_, _, rfl, ?_⟩
      rcases det_step (s := s) (rowsD := some (.lst (rs.map rowI))) (sign := sign) (x4 := some (.int (p : Int))) (x5 := x5) (x6 := x6) (x7 := x7) (x8 := x8) (x9 := x9) h5 hp hn h7 h8 with ⟨ev, e⟩ | ⟨rs2, sign2, last2, y5, y6, y7, y8, e, q1, q2, q3, q4⟩
      · exact .inr (.inl ⟨_, _, e, .inl ⟨ev, rfl, by omega⟩⟩)
      · refine .inl ⟨_, _, .inl e, p + 1, rs2, sign2, last2, _, _, _, _, _, _, rfl, hp, rfl, rfl, q1, by rcases q2 with z | z <;> rw [z] <;> omega, q3, Nat.lt_of_lt_of_le q4 (Nat.pow_le_pow_right (by decide) (by show eb p ≤ 2 * eb p + 2; omega)), fun z => by omega⟩)
    (fun ev t ⟨p, rs', sign, last, x4, x5, x6, x7, x8, x9, h1, h2, h3, h4, h5, h6, h7, h8, h9⟩ => .inr ⟨rs'.map rowI, sign, last, x4, x5, x6, x7, x8, x9, by rw [h3, h4], h6, Nat.lt_trans h8 (Nat.pow_lt_pow_right (by decide) (eb_small (by omega))), h9⟩)
    (rngD 0 n) [some (.lst (rs.map rowI)), some (.ref s.mo.length), some (.int 1), some (.int 1), none, none, none, none, none, none] (s.own (.lst (rs.map rowI))) ⟨0, rs, 1, 1, none, none, none, none, none, none, rfl, Nat.zero_le _, rfl, rfl, sq, rfl, by decide, by decide, fun _ => ⟨rfl, rfl⟩⟩
  have ix : ixRng1 (aCons (xCall (noX (f1 gLen)) (aCons (xVar 1) aNil)) aNil) [some (.lst (rs.map rowI)), some (.ref s.mo.length), some (.int 1), some (.int 1), none, none, none, none, none, none] (s.own (.lst (rs.map rowI))) = .ok ⟨rngD 0 n, []⟩ (s.own (.lst (rs.map rowI))) := by
    refine rng1 ?_ (by omega)
    simp only [RUN, len_refL own_get, List.length_map, sq.len]
  have l3 : ∀ a b c : D, decide ([a, b, c].length ≤ sizeLine) = true := fun _ _ _ => rfl
  have u3 : ∀ (r : List D → DV.Env → S → Out DV.Env) (e : DV.Env) (t : S) (x y z : D), gUnp 3 r (.tup [x, y, z]) e t = r [x, y, z] e t := fun _ _ _ _ _ _ => rfl
  have lw : D.lows 0 0 (rs.map rowI) = true := lows_rowI
  rcases key with ⟨ev, e, hn0⟩ | ⟨rs', sign, last, x4, x5, x6, x7, x8, x9, e, h1, h2, h3⟩
  · refine ⟨0, ?_, fun z => absurd z hn0⟩
    show endDef s (m__law_b_det [some (.lst (rs.map rowI)), none, none, none, none, none, none, none, none, none] s) = _
    unfold m__law_b_det
    simp only [RUN, comp, lw, l3, u3, ix, e, RUN2, back_ownS]
  · have mf : nMul sign last = some (.int (sign * last)) := mul_small (by
      have := log2_lt h2 (by decide)
      rw [h1, show (1 : Nat).log2 = 0 by decide]
      omega)
    refine ⟨sign * last, ?_, fun z => by obtain ⟨z1, z2⟩ := h3 z; rw [z1, z2]; rfl⟩
    show endDef s (m__law_b_det [some (.lst (rs.map rowI)), none, none, none, none, none, none, none, none, none] s) = _
    unfold m__law_b_det
    simp only [RUN, comp, lw, l3, u3, ix, e, mf, RUN2, back_ownS]
end K02
end
section
set_option Elab.async false
set_option linter.all false
set_option maxRecDepth 100000
set_option maxHeartbeats 2000000
/-! PG: dicts with tuples as keys; sorting. -/
namespace DV
open PySem PySem.Spec PyProof.Rows
theorem lookT_rep {q q' : List L2.Key} {v : D} : ∀ {ks vs : List D}, vs.length = ks.length → lookT ks (repT ks vs q v) q' = if q' = q then (lookT ks vs q').map (fun _ => v) else lookT ks vs q'
  | [], [], _ => by by_cases h : q' = q <;> simp [h, lookT, repT]
  | [], _ :: _, h => by cases h
  | _ :: _, [], h => by cases h
  | k :: ks, w :: vs, h => by
    have ih := lookT_rep (q := q) (q' := q') (v := v) (ks := ks) (vs := vs) (by simpa using h)
    show (if kTD k = some q' then some (if kTD k = some q then v else w) else lookT ks (repT ks vs q v) q') = _
    have e : lookT (k :: ks) (w :: vs) q' = if kTD k = some q' then some w else lookT ks vs q' := rfl
    rw [e, ih]
    by_cases h1 : kTD k = some q'
    · rw [if_pos h1, if_pos h1]
      by_cases h2 : q' = q
      · subst h2
        rw [if_pos rfl, if_pos h1]
        rfl
      · rw [if_neg h2, if_neg (by rw [h1]; intro z; exact h2 (Option.some.inj z))]
    · rw [if_neg h1, if_neg h1]
theorem lookT_app {q' : List L2.Key} {k v : D} : ∀ {ks vs : List D}, vs.length = ks.length → lookT (ks ++ [k]) (vs ++ [v]) q' = match lookT ks vs q' with
    | some w => some w
    | none => if kTD k = some q' then some v else none
  | [], [], _ => rfl
  | [], _ :: _, h => by cases h
  | _ :: _, [], h => by cases h
  | k0 :: ks, w :: vs, h => by
    have ih := lookT_app (q' := q') (k := k) (v := v) (ks := ks) (vs := vs) (by simpa using h)
    show (if kTD k0 = some q' then some w else lookT (ks ++ [k]) (vs ++ [v]) q') = _
    have e : lookT (k0 :: ks) (w :: vs) q' = if kTD k0 = some q' then some w else lookT ks vs q' := rfl
    rw [e, ih]
    by_cases h1 : kTD k0 = some q'
    · rw [if_pos h1, if_pos h1]
    · rw [if_neg h1, if_neg h1]
theorem repT_len {q : List L2.Key} {v : D} : ∀ {ks vs : List D}, vs.length = ks.length → (repT ks vs q v).length = ks.length
  | [], [], _ => rfl
  | [], _ :: _, h => by cases h
  | _ :: _, [], h => by cases h
  | k :: ks, w :: vs, h => by
    show (repT ks vs q v).length + 1 = ks.length + 1
    rw [repT_len (by simpa using h)]
theorem putT_len {q : List L2.Key} {v : D} {ks vs : List D} (h : vs.length = ks.length) : (putTD ks vs q v).2.length = (putTD ks vs q v).1.length ∧ (putTD ks vs q v).1.length ≤ ks.length + 1 := by
  unfold putTD
  split
  · exact ⟨repT_len h, Nat.le_succ _⟩
  · exact ⟨by simp [h], by simp⟩
theorem lookT_put {q q' : List L2.Key} {v : D} {ks vs : List D} (h : vs.length = ks.length) : lookT (putTD ks vs q v).1 (putTD ks vs q v).2 q' = if q' = q then some v else lookT ks vs q' := by
  unfold putTD
  split
  · rename_i hs
    show lookT ks (repT ks vs q v) q' = _
    rw [lookT_rep h]
    by_cases e : q' = q
    · subst e
      rw [if_pos rfl, if_pos rfl]
      cases hk : lookT ks vs q' with
      | none => rw [hk] at hs; cases hs
      | some _ => rfl
    · rw [if_neg e, if_neg e]
  · rename_i hs
    show lookT (ks ++ [.tup (q.map keyD)]) (vs ++ [v]) q' = _
    rw [lookT_app h, kTD_map]
    by_cases e : q' = q
    · subst e
      rw [if_pos rfl, if_pos rfl]
      cases hk : lookT ks vs q' with
      | none => rfl
      | some w => rw [hk] at hs; exact absurd rfl hs
    · rw [if_neg e, if_neg (by intro z; exact e (Option.some.inj z).symm)]
      cases lookT ks vs q' <;> rfl
theorem ix_refT {s : S} {i : Nat} {ks vs : List D} {k : D} {q : List L2.Key} (h : s.mo[i]? = some (.dT ks vs)) (hk : kTD k = some q) : gIx s (.ref i) k = lookT ks vs q := by
  unfold gIx
  rw [dct_refT h]
  show (findD (ks, vs, true) k).bind id = _
  unfold findD
  show ((kTD k).map (lookT ks vs)).bind id = _
  rw [hk]
  rfl
/-! ### sorting -/
theorem sortOk_ints (ns : List Int) (hl : ns.length ≤ sizeLine) : SortOk (ns.map D.int) := by
  refine ⟨fun d hd => ?_, fun d hd d' hd' => ?_, .inr fun d hd => ?_, by rw [List.length_map]; exact hl, fun d hd => ?_⟩
  · obtain ⟨n, _, rfl⟩ := List.mem_map.mp hd
    rfl
  · obtain ⟨e, he, rfl⟩ := List.mem_map.mp hd
    obtain ⟨e', he', rfl⟩ := List.mem_map.mp hd'
    obtain ⟨n, _, rfl⟩ := List.mem_map.mp he
    obtain ⟨n', _, rfl⟩ := List.mem_map.mp he'
    rfl
  · obtain ⟨e, he, rfl⟩ := List.mem_map.mp hd
    obtain ⟨n, _, rfl⟩ := List.mem_map.mp he
    exact ⟨(fun z => nomatch z), (fun _ z => nomatch z)⟩
  · obtain ⟨n, _, rfl⟩ := List.mem_map.mp hd
    exact Nat.zero_le _
theorem sortOk_strs (ns : List Str) (hl : ns.length ≤ sizeLine) : SortOk (ns.map D.str) := by
  refine ⟨fun d hd => ?_, fun d hd d' hd' => ?_, .inr fun d hd => ?_, by rw [List.length_map]; exact hl, fun d hd => ?_⟩
  · obtain ⟨n, _, rfl⟩ := List.mem_map.mp hd
    rfl
  · obtain ⟨e, he, rfl⟩ := List.mem_map.mp hd
    obtain ⟨e', he', rfl⟩ := List.mem_map.mp hd'
    obtain ⟨n, _, rfl⟩ := List.mem_map.mp he
    obtain ⟨n', _, rfl⟩ := List.mem_map.mp he'
    rfl
  · obtain ⟨e, he, rfl⟩ := List.mem_map.mp hd
    obtain ⟨n, _, rfl⟩ := List.mem_map.mp he
    exact ⟨(fun z => nomatch z), (fun _ z => nomatch z)⟩
  · obtain ⟨n, _, rfl⟩ := List.mem_map.mp hd
    exact Nat.zero_le _
theorem leD_int (a b : Int) : leD (.int a) (.int b) = decide (a ≤ b) := by
  have h := congrFun (congrFun (PySem.W.dataLe_int (β := Int) id) a) b
  exact h
theorem leD_str (a b : Str) : leD (.str a) (.str b) = decide (a.cps.toList ≤ b.cps.toList) := by
  have h := congrFun (congrFun (PySem.W.dataLe_str (β := Str) id) a) b
  exact h
def sortI (ns : List Int) : List Int := ns.mergeSort fun a b => decide (a ≤ b)
def leS (a b : Str) : Bool := decide (a.cps.toList ≤ b.cps.toList)
def sortS (ns : List Str) : List Str := ns.mergeSort leS
theorem sorted_ints {s : S} {ns : List Int} (hl : ns.length ≤ sizeLine) : gSorted s (.lst (ns.map D.int)) = some ((sortI ns).map D.int) := by
  unfold gSorted
  show (if SortOk (ns.map D.int) then some ((ns.map D.int).mergeSort leD) else none) = _
  rw [if_pos (sortOk_ints ns hl)]
  congr 1
  exact (List.map_mergeSort fun a _ b _ => (leD_int a b).symm).symm
theorem sorted_strs {s : S} {ns : List Str} (hl : ns.length ≤ sizeLine) : gSorted s (.lst (ns.map D.str)) = some ((sortS ns).map D.str) := by
  unfold gSorted
  show (if SortOk (ns.map D.str) then some ((ns.map D.str).mergeSort leD) else none) = _
  rw [if_pos (sortOk_strs ns hl)]
  congr 1
  exact (List.map_mergeSort fun a _ b _ => (leD_str a b).symm).symm
theorem sortI_id {ns : List Int} (h : ns.Pairwise (· ≤ ·)) : sortI ns = ns := List.mergeSort_of_pairwise (h.imp fun z => decide_eq_true z)
theorem sortS_perm {ns : List Str} : (sortS ns).Perm ns := List.mergeSort_perm _ _
/-- before, as texts -/
def ltS (a b : Str) : Prop := a.cps.toList < b.cps.toList
theorem leS_trans (a b c : Str) (h1 : leS a b = true) (h2 : leS b c = true) : leS a c = true := decide_eq_true (List.le_trans (of_decide_eq_true h1) (of_decide_eq_true h2))
theorem leS_total (a b : Str) : (leS a b || leS b a) = true := by
  rw [Bool.or_eq_true]
  exact (List.le_total a.cps.toList b.cps.toList).imp (fun h => decide_eq_true h) fun h => decide_eq_true h
theorem sortS_asc {ns : List Str} (nd : ns.Nodup) : (sortS ns).Pairwise ltS := by
  have h1 := List.pairwise_mergeSort leS_trans leS_total ns
  have h2 : (sortS ns).Nodup := (sortS_perm.nodup_iff).mpr nd
  refine (h1.and h2).imp fun {a b} ⟨h, ne⟩ => ?_
  have h := of_decide_eq_true h
  rcases Classical.em (ltS a b) with z | z
  · exact z
  · have z2 : b.cps.toList ≤ a.cps.toList := List.not_lt.mp z
    exact absurd (str_ext (List.le_antisymm h z2)) ne
end DV
end
section
set_option Elab.async false
set_option linter.all false
set_option maxRecDepth 100000
set_option maxHeartbeats 4000000
namespace K02
open DV PySem
/-! ### all lots of places -/
def natD (k : Nat) : D := .int (k : Int)
def lotD (l : List Nat) : D := .lst (l.map natD)
def bitsL : Nat → List (List Nat)
  | 0 => [[]]
  | n + 1 => bitsL n ++ (bitsL n).map fun l => l ++ [n]
theorem bitsL_len : ∀ n, (bitsL n).length = 2 ^ n
  | 0 => rfl
  | n + 1 => by
    show (bitsL n ++ (bitsL n).map fun l => l ++ [n]).length = _
    rw [List.length_append, List.length_map, bitsL_len n, Nat.pow_succ]
    omega
theorem bitsL_mem : ∀ {n : Nat} {l : List Nat}, l ∈ bitsL n → l.Pairwise (· < ·) ∧ ∀ k ∈ l, k < n
  | 0, l, h => by
    have h : l = [] := by simpa [bitsL] using h
    subst h
    exact ⟨.nil, fun k hk => by cases hk⟩
  | n + 1, l, h => by
    rcases List.mem_append.mp (show l ∈ bitsL n ++ (bitsL n).map fun l => l ++ [n] from h) with h | h
    · obtain ⟨h1, h2⟩ := bitsL_mem h
      exact ⟨h1, fun k hk => Nat.lt_succ_of_lt (h2 k hk)⟩
    · obtain ⟨q, hq, rfl⟩ := List.mem_map.mp h
      obtain ⟨h1, h2⟩ := bitsL_mem hq
      refine ⟨?_, fun k hk => ?_⟩
      · rw [List.pairwise_append]
        exact ⟨h1, List.pairwise_singleton _ _, fun a ha b hb => by rw [List.mem_singleton.mp hb]; exact h2 a ha⟩
      · rcases List.mem_append.mp hk with z | z
        · exact Nat.lt_succ_of_lt (h2 k z)
        · rw [List.mem_singleton.mp z]
          exact Nat.lt_succ_self _
theorem bitsL_nodup : ∀ n, (bitsL n).Nodup
  | 0 => by simp [bitsL]
  | n + 1 => by
    show (bitsL n ++ (bitsL n).map fun l => l ++ [n]).Nodup
    rw [List.nodup_append]
    refine ⟨bitsL_nodup n, List.Pairwise.map _ (fun a b hab z => hab (List.append_cancel_right z)) (bitsL_nodup n), fun a ha b hb z => ?_⟩
    obtain ⟨q, _, rfl⟩ := List.mem_map.mp hb
    have := (bitsL_mem ha).2 n (by rw [z]; simp)
    omega
theorem nil_bits : ∀ n, [] ∈ bitsL n
  | 0 => by simp [bitsL]
  | n + 1 => List.mem_append.mpr (.inl (nil_bits n))
theorem low_lot {l : List Nat} {n t : Nat} : (lotD l).low n t = true := lows_map fun _ _ => rfl
theorem lows_lot {ls : List (List Nat)} {n t : Nat} : D.lows n t (ls.map lotD) = true := lows_map fun _ _ => low_lot
theorem bits_ok {s : S} {n : Nat} (hn : n ≤ 9) : F__law_b_bits s [.int (n : Int)] = .ok (.lst ((bitsL n).map lotD)) s := by
  obtain ⟨e', s', run, p, x2, x3, h1, h2, h3, h4⟩ := for_run (g := gVar 2) (body := B__law_b_bits_1) (w := ⟨rngD 0 n, []⟩) (e := [some (.int (n : Int)), some (.lst [.lst []]), none, none]) (s := s) (ds := rngD 0 n)
    (fun ds ev t => ∃ (p : Nat) (x2 x3 : Option D), ev = [some (.int (n : Int)), some (.lst ((bitsL p).map lotD)), x2, x3] ∧ t = s ∧ ds = rngD (p : Int) (n - p) ∧ p ≤ n)
    ⟨0, none, none, rfl, rfl, rfl, Nat.zero_le _⟩ (fun _ _ _ _ => same_nil) (fun d ds ev t ⟨p, x2, x3, h1, h2, h3, h4⟩ => by
      subst h1 h2
      have hp : p < n := by
        by_cases z : p < n
        · exact z
        · rw [show n - p = 0 by omega] at h3
          cases h3
      rw [show n - p = (n - (p + 1)) + 1 by omega, rng_cons] at h3
      injection h3 with h5 h6
      subst h5 h6
      have hb := bitsL_len p
      have hb2 : 2 ^ p ≤ 2 ^ 9 := Nat.pow_le_pow_right (by decide) (by omega)
      have comp : aComp (ixSeq (xVar 1)) (.one 3) tAll E__law_b_bits_0 [3] [some (.int (n : Int)), some (.lst ((bitsL p).map lotD)), some (.int (p : Int)), x3] t = .ok (((bitsL p).map fun l => l ++ [p]).map lotD) t := by
        rw [aComp_map ((bitsL p).map lotD) (fun d => match d with | .lst xs => .lst (xs ++ [natD p]) | d => d) (by simp only [RUN]) (by rw [List.length_map, line]; omega)]
        · rw [List.map_map, List.map_map]
          refine congrArg (fun l => Out.ok l t) (List.map_congr_left fun l _ => ?_)
          show D.lst (l.map natD ++ [natD p]) = D.lst ((l ++ [p]).map natD)
          rw [List.map_append]
          rfl
        · intro d hd
          obtain ⟨l, hl, rfl⟩ := List.mem_map.mp hd
          have hll : l.length ≤ p := by
            have := nodup_le (cs := l) (xs := List.range p) ((bitsL_mem hl).1.imp fun z => Nat.ne_of_lt z) fun k hk => List.mem_range.mpr ((bitsL_mem hl).2 k hk)
            rwa [List.length_range] at this
          have cat : ∀ t : S, gAdd t (.lst (l.map natD)) (.lst [.int (p : Int)]) = some (.lst (l.map natD ++ [.int (p : Int)])) := fun t => o_catL (by rw [List.length_map, List.length_singleton, line]; omega)
          have l1 : decide ([D.int (p : Int)].length ≤ sizeLine) = true := rfl
          exact ⟨_, rfl, by simp only [E__law_b_bits_0, RUN, lotD, l1, cat]; rfl⟩
      have cat : ∀ t : S, gAdd t (.lst ((bitsL p).map lotD)) (.lst (((bitsL p).map fun l => l ++ [p]).map lotD)) = some (.lst ((bitsL (p + 1)).map lotD)) := fun t => by
        rw [o_catL (by rw [List.length_map, List.length_map, List.length_map, line]; omega), ← List.map_append]
        rfl
      refine ⟨_, _, rfl, [some (.int (n : Int)), some (.lst ((bitsL (p + 1)).map lotD)), some (.int (p : Int)), x3], t, ?_, p + 1, _, _, rfl, rfl, rfl, hp⟩
      simp only [B__law_b_bits_1, RUN, comp, cat])
  subst h1 h2
  have hpn : p = n := by
    by_cases z : p < n
    · rw [show n - p = (n - (p + 1)) + 1 by omega, rng_cons] at h3
      cases h3
    · omega
  subst hpn
  have ix : ixRng1 (aCons (xVar 0) aNil) [some (.int (p : Int)), some (.lst [.lst []]), none, none] s' = .ok ⟨rngD 0 p, []⟩ s' := rng1 (by simp only [RUN]) (by omega)
  have l0 : decide (([] : List D).length ≤ sizeLine) = true := rfl
  have l1 : decide ([D.lst []].length ≤ sizeLine) = true := rfl
  have start : F__law_b_bits s' [.int (p : Int)] = endDef s' (m__law_b_bits [some (.int (p : Int)), none, none, none] s') := run_def rfl
  rw [start]
  unfold m__law_b_bits
  simp only [RUN, l0, l1, ix, run]
  rw [fin_lst lows_lot, back_self]
end K02
end
section
set_option Elab.async false
set_option linter.all false
set_option maxRecDepth 100000
set_option maxHeartbeats 4000000
namespace K02
open DV PySem
theorem Drew.tr' {s s' s'' : S} {i m n k : Nat} (h : Drew s i m s') (h' : Drew s' i n s'') (hk : n ≤ k) : Drew s i k s'' := (h.trans h').le hk
theorem pickI {t : S} {i m : Nat} {ks : List Int} (sp : Spr t i m) (hm : m < 2 ^ 40) (hz : ks ≠ []) (hl : ks.length < 100) : ∃ k t', k ∈ ks ∧ F__law_pick t [.ref i, .lst (ks.map D.int)] = .ok (.int k) t' ∧ Drew t i (m + 1) t' := by
  obtain ⟨x, t', hx, e, dr⟩ := pick_ok (xs := ks.map D.int) sp hm (by simpa using hz) (by rw [List.length_map]; omega) (fun x hx => by
    obtain ⟨c, _, rfl⟩ := List.mem_map.mp hx
    rfl)
  obtain ⟨c, hc, rfl⟩ := List.mem_map.mp hx
  exact ⟨c, t', hc, e, dr⟩
/-- some lots by chance -/
theorem shape_a {t : S} {i m n : Nat} {nD x3 x4 x5 x6 x7 x8 x9 x10 x11 x12 x13 x14 x15 : Option D} (sp : Spr t i m) (hm : m < 2 ^ 39) (hn : n ≤ 9) :
    ∃ (a : List (List Nat)) (t' : S), aComp (ixSeq (xVar 2)) (.one 14) T__law_b_shape_0 E__law_b_shape_1 [14] [some (.ref i), nD, some (.lst ((bitsL n).map lotD)), x3, x4, x5, x6, x7, x8, x9, x10, x11, x12, x13, x14, x15] t = .ok (a.map lotD) t' ∧ a.Sublist (bitsL n) ∧ Drew t i (m + 1024) t' := by
  have hb := bitsL_len n
  have hb2 : 2 ^ n ≤ 2 ^ 9 := Nat.pow_le_pow_right (by decide) (by omega)
  obtain ⟨acc, t', run, b, a, h1, h2, ⟨l1, h3, h4⟩, h5⟩ := comp_inv (c := .one 14) (t := T__law_b_shape_0) (f := E__law_b_shape_1) (vs := [14]) (w := ⟨(bitsL n).map lotD, []⟩) (e := [some (.ref i), nD, some (.lst ((bitsL n).map lotD)), x3, x4, x5, x6, x7, x8, x9, x10, x11, x12, x13, x14, x15])
    (fun ds acc t' => ∃ (b a : List (List Nat)), ds = b.map lotD ∧ acc = a.map lotD ∧ (∃ l1, bitsL n = l1 ++ b ∧ a.Sublist l1) ∧ Drew t i (m + 2 * (512 - b.length)) t') (fun _ _ _ _ => same_nil) (fun d ds acc t1 ⟨b, a, h1, h2, ⟨l1, h3, h4⟩, h5⟩ => by
      cases b with
      | nil => cases h1
      | cons l b =>
        injection h1 with h6 h7
        subst h6 h7 h2
        have hl : (l1 ++ l :: b).length = 2 ^ n := by rw [← h3, hb]
        rw [List.length_append, List.length_cons] at hl
        have hbl : b.length + 1 ≤ 512 := by
          have : (512 : Nat) = 2 ^ 9 := rfl
          omega
        have hal : a.length ≤ l1.length := h4.length_le
        obtain ⟨k, t2, hk, e2, d2⟩ := pickI (ks := [2, 3, 6]) h5.spr (by rw [List.length_cons]; omega) (by simp) (by simp)
        have hk2 : 0 < k ∧ k < 2 ^ 200 := by
          simp only [List.mem_cons, List.mem_nil_iff, or_false] at hk
          rcases hk with rfl | rfl | rfl <;> decide
        obtain ⟨q, t3, e3, _, _, d3⟩ := draw_ok (n := k) d2.spr (by rw [List.length_cons]; omega) hk2.1 hk2.2
        have l3 : decide ([D.int 2, D.int 3, D.int 6].length ≤ sizeLine) = true := rfl
        have e2' : F__law_pick t1 [.ref i, .lst [.int 2, .int 3, .int 6]] = .ok (.int k) t2 := e2
        have dr : Drew t i (m + 2 * (512 - b.length)) t3 := ((h5.trans d2).trans d3).le (by rw [List.length_cons]; omega)
        refine ⟨_, rfl, decide (q = 0), t3, ?_, fun _ => ⟨lotD l, t3, ?_, ?_, b, a ++ [l], rfl, by simp, ⟨l1 ++ [l], by simp [h3], h4.append (.refl _)⟩, dr⟩, fun _ => ⟨b, a, rfl, rfl, ⟨l1 ++ [l], by simp [h3], h4.trans (List.sublist_append_left _ _)⟩, dr⟩⟩
        · simp only [T__law_b_shape_0, RUN, l3, e2', e3]
        · simp only [E__law_b_shape_1, RUN]
        · rw [List.length_map, line]
          omega) ((bitsL n).map lotD) [] t ⟨bitsL n, [], rfl, rfl, ⟨[], rfl, .refl _⟩, .refl (spr_le sp (by omega))⟩
  have hb0 : b = [] := by
    cases b with
    | nil => rfl
    | cons _ _ => cases h1
  subst hb0 h2
  rw [List.append_nil] at h3
  refine ⟨a, t', ?_, h3 ▸ h4, h5.le (by simp)⟩
  rw [r_comp]
  simp only [RUN, run]
/-- a table of small numbers for the pairs told -/
def TabP (P : Nat → Nat → Prop) (ks vs : List D) : Prop := vs.length = ks.length ∧ ∀ a b : Nat, P a b → ∃ x : Int, lookT ks vs [.inl (a : Int), .inl (b : Int)] = some (.int x) ∧ x.natAbs < 2 ^ 4
theorem tab_put {P : Nat → Nat → Prop} {ks vs : List D} {a b : Nat} {x : Int} (h : TabP P ks vs) (hx : x.natAbs < 2 ^ 4) : TabP (fun c d => P c d ∨ (c = a ∧ d = b)) (putTD ks vs [.inl (a : Int), .inl (b : Int)] (.int x)).1 (putTD ks vs [.inl (a : Int), .inl (b : Int)] (.int x)).2 := by
  obtain ⟨h1, h2⟩ := h
  refine ⟨(putT_len h1).1, fun c d hcd => ?_⟩
  rw [lookT_put h1]
  by_cases e : ([.inl (c : Int), .inl (d : Int)] : List L2.Key) = [.inl (a : Int), .inl (b : Int)]
  · rw [if_pos e]
    exact ⟨x, rfl, hx⟩
  · rw [if_neg e]
    rcases hcd with z | ⟨z1, z2⟩
    · exact h2 c d z
    · subst z1 z2
      exact absurd rfl e
theorem tab_mono {P Q : Nat → Nat → Prop} {ks vs : List D} (h : TabP P ks vs) (hq : ∀ a b, Q a b → P a b) : TabP Q ks vs := ⟨h.1, fun a b z => h.2 a b (hq a b z)⟩
/-- within the frame of _law_b_shape, the table being its own -/
structure ShI (s : S) (i m : Nat) (P : Nat → Nat → Prop) (c : Nat) (t : S) : Prop where
  tg : t.tg = s.tg
  len : t.mo.length = s.mo.length + 1
  old : ∀ j, j ≠ i → j < s.mo.length → t.mo[j]? = s.mo[j]?
  sp : Spr t i m
  tab : ∃ ks vs, t.mo[s.mo.length]? = some (.dT ks vs) ∧ TabP P ks vs ∧ ks.length ≤ c
theorem shape_b2 {s t : S} {i m n c one other : Nat} {most : Int} {skew : Bool} {P : Nat → Nat → Prop} {nD x2 x3 x5 x10 x11 x12 x13 x14 x15 : Option D} (hi : i < s.mo.length) (h : ShI s i m P c t) (hm : m < 2 ^ 39) (hmost : 0 < most ∧ most ≤ 9) (hc : c < 1000) :
    ∃ x t', B__law_b_shape_2 [some (.ref i), nD, x2, x3, some (.int most), x5, some (.ref s.mo.length), some (.bl skew), some (natD one), some (natD other), x10, x11, x12, x13, x14, x15] t = .next [some (.ref i), nD, x2, x3, some (.int most), x5, some (.ref s.mo.length), some (.bl skew), some (natD one), some (natD other), some (.int x), x11, x12, x13, x14, x15] t' ∧
      ShI s i (m + 1) (fun a b => (P a b ∨ (a = one ∧ b = other)) ∨ (a = other ∧ b = one)) (c + 2) t' := by
  have hN : s.mo.length ≠ i := Nat.ne_of_gt hi
  -- the number
  have num : ∃ x t', xIf (DV.tAnd (tTr (xVar 7)) (tVal (xBin gEq (xVar 8) (xVar 9)))) (xC (.int 0)) (xBin (gInt nSub) (xCall F__law_draw (aCons (xVar 0) (aCons (xBin gAdd (xBin gMul (xC (.int 2)) (xVar 4)) (xC (.int 1))) aNil))) (xVar 4)) [some (.ref i), nD, x2, x3, some (.int most), x5, some (.ref s.mo.length), some (.bl skew), some (natD one), some (natD other), x10, x11, x12, x13, x14, x15] t = .ok (.int x) t' ∧ Int.natAbs x < 2 ^ 4 ∧ Drew t i (m + 1) t' := by
    by_cases hz : skew = true ∧ one = other
    · obtain ⟨rfl, rfl⟩ := hz
      refine ⟨0, t, ?_, by decide, .refl (spr_le h.sp (by omega))⟩
      simp only [RUN, natD, decide_true]
    · obtain ⟨k, t', e, k0, k1, d⟩ := draw_ok (n := 2 * most + 1) h.sp (by omega) (by omega) (by omega)
      have ml : nMul 2 most = some (.int (2 * most)) := mul_small (by
        have z1 : (Int.natAbs 2).log2 < 64 := small_log (by decide)
        have z2 : most.natAbs.log2 < 64 := small_log (by omega)
        omega)
      refine ⟨k - most, t', ?_, by have : (2 : Nat) ^ 4 = 16 := rfl; omega, d⟩
      cases skew with
      | false => simp only [RUN, ml, e]
      | true =>
        have d1 : decide ((one : Int) = (other : Int)) = false := decide_eq_false fun z => hz ⟨rfl, by omega⟩
        simp only [RUN, natD, d1, ml, e]
  obtain ⟨x, t', e, hx, d⟩ := num
  obtain ⟨ks, vs, h1, h2, h3⟩ := h.tab
  have h1' : t'.mo[s.mo.length]? = some (.dT ks vs) := (d.old hN).trans h1
  -- the other number
  have num2 : ∃ y : Int, (∀ t, xIf (DV.tOr (tVal (xBin gEq (xVar 8) (xVar 9))) (DV.tNot (tTr (xVar 7)))) (xVar 10) (xUn gNeg (xVar 10)) [some (.ref i), nD, x2, x3, some (.int most), x5, some (.ref s.mo.length), some (.bl skew), some (natD one), some (natD other), some (.int x), x11, x12, x13, x14, x15] t = .ok (.int y) t) ∧ y.natAbs < 2 ^ 4 := by
    by_cases hz : one = other
    · have d1 : decide ((one : Int) = (other : Int)) = true := decide_eq_true (by omega)
      exact ⟨x, fun t => by simp only [RUN, natD, d1], hx⟩
    · have d1 : decide ((one : Int) = (other : Int)) = false := decide_eq_false (by omega)
      cases skew with
      | false => exact ⟨x, fun t => by simp only [RUN, natD, d1, Bool.not_false], hx⟩
      | true => exact ⟨-x, fun t => by simp only [RUN, natD, d1, Bool.not_true], by omega⟩
  obtain ⟨y, e2, hy⟩ := num2
  have k1 : kTD (.tup [.int (one : Int), .int (other : Int)]) = some [.inl (one : Int), .inl (other : Int)] := rfl
  have k2 : kTD (.tup [.int (other : Int), .int (one : Int)]) = some [.inl (other : Int), .inl (one : Int)] := rfl
  have p1 := putT_len (q := [.inl (one : Int), .inl (other : Int)]) (v := .int x) h2.1
  have st1 := set_refT (v := .int x) h1' k1 (by rw [line]; omega) rfl
  have h4 : (t'.put s.mo.length (.dT (putTD ks vs [.inl (one : Int), .inl (other : Int)] (.int x)).1 (putTD ks vs [.inl (one : Int), .inl (other : Int)] (.int x)).2)).mo[s.mo.length]? = some _ := put_get h1'
  have st2 := set_refT (v := .int y) h4 k2 (by rw [line]; omega) rfl
  have T1 := tab_put (a := one) (b := other) h2 hx
  have T2 := tab_put (a := other) (b := one) T1 hy
  rw [put_put] at st2
  have p2 := putT_len (q := [.inl (other : Int), .inl (one : Int)]) (v := .int y) p1.1
  clear h4
  generalize putTD ks vs [.inl (one : Int), .inl (other : Int)] (.int x) = kv1 at *
  generalize putTD kv1.1 kv1.2 [.inl (other : Int), .inl (one : Int)] (.int y) = kv2 at *
  refine ⟨x, t'.put s.mo.length (.dT kv2.1 kv2.2), ?_, ⟨d.tg.trans h.tg, by rw [put_len, d.len]; exact h.len, fun j j1 j2 => ?_, spr_put d.spr hN, _, _, put_get h1', T2, ?_⟩⟩
  · have l2 : ∀ a b : D, decide ([a, b].length ≤ sizeLine) = true := fun _ _ => rfl
    unfold B__law_b_shape_2
    simp only [natD] at e e2 ⊢
    rw [r_seq, r_asg, e]
    simp only [fl_ok, r_gVar, r_gAsg, then_next, s_0, s_S]
    simp only [r_asg, r_var, g_0, g_S, bind_ok, e2, l2, cIf_t, fl_ok, r_gUnp2, r_gsCons, r_gsNil, r_gSet, r_tup, r_cons, r_nil, natD, of_some, st1, st2, r_gAsg]
  · rw [put_ne (Nat.ne_of_gt j2), d.old j1]
    exact h.old j j1 j2
  · omega
end K02
end
section
set_option Elab.async false
set_option linter.all false
set_option maxRecDepth 100000
set_option maxHeartbeats 4000000
namespace K02
open DV PySem
theorem ShI.mono {s t : S} {i m m' c c' : Nat} {P Q : Nat → Nat → Prop} (h : ShI s i m P c t) (hm : m ≤ m') (hc : c ≤ c') (hq : ∀ a b, Q a b → P a b) : ShI s i m' Q c' t := by
  obtain ⟨ks, vs, h1, h2, h3⟩ := h.tab
  exact ⟨h.tg, h.len, h.old, spr_le h.sp hm, ks, vs, h1, tab_mono h2 hq, by omega⟩
def Cov (n o q : Nat) (a b : Nat) : Prop := a < n ∧ b < n ∧ (a < o ∨ b < o ∨ (a = o ∧ b < q) ∨ (b = o ∧ a < q))
theorem shape_b3 {s t : S} {i m n o : Nat} {most : Int} {skew : Bool} {x2 x3 x5 x9 x10 x11 x12 x13 x14 x15 : Option D} (hi : i < s.mo.length) (h : ShI s i (m + 10 * o) (Cov n o o) (20 * o) t) (hm : m < 2 ^ 38) (hn : n ≤ 9) (ho : o < n) (hmost : 0 < most ∧ most ≤ 9) :
    ∃ y9 y10 t', B__law_b_shape_3 [some (.ref i), some (natD n), x2, x3, some (.int most), x5, some (.ref s.mo.length), some (.bl skew), some (natD o), x9, x10, x11, x12, x13, x14, x15] t = .next [some (.ref i), some (natD n), x2, x3, some (.int most), x5, some (.ref s.mo.length), some (.bl skew), some (natD o), y9, y10, x11, x12, x13, x14, x15] t' ∧
      ShI s i (m + 10 * (o + 1)) (Cov n (o + 1) (o + 1)) (20 * (o + 1)) t' := by
  obtain ⟨e', t', run, q, y9, y10, h1, h2, h3, h4, h5⟩ := for_run (g := gVar 9) (body := B__law_b_shape_2) (w := ⟨rngD (o : Int) (n - o), []⟩) (e := [some (.ref i), some (natD n), x2, x3, some (.int most), x5, some (.ref s.mo.length), some (.bl skew), some (natD o), x9, x10, x11, x12, x13, x14, x15]) (s := t) (ds := rngD (o : Int) (n - o))
    (fun ds ev t => ∃ (q : Nat) (y9 y10 : Option D), ev = [some (.ref i), some (natD n), x2, x3, some (.int most), x5, some (.ref s.mo.length), some (.bl skew), some (natD o), y9, y10, x11, x12, x13, x14, x15] ∧ ds = rngD (q : Int) (n - q) ∧ o ≤ q ∧ q ≤ n ∧ ShI s i (m + 10 * o + q) (Cov n o q) (20 * o + 2 * q) t)
    ⟨o, x9, x10, rfl, rfl, Nat.le_refl _, by omega, h.mono (by omega) (by omega) fun _ _ z => z⟩ (fun _ _ _ _ => same_nil) (fun d ds ev t ⟨q, y9, y10, h1, h2, h3, h4, h5⟩ => by
      subst h1
      have hp : q < n := by
        by_cases z : q < n
        · exact z
        · rw [show n - q = 0 by omega] at h2
          cases h2
      rw [show n - q = (n - (q + 1)) + 1 by omega, rng_cons] at h2
      injection h2 with h6 h7
      subst h6 h7
      obtain ⟨x, t', e, h8⟩ := shape_b2 (one := o) (other := q) (n := n) (skew := skew) (nD := some (natD n)) (x2 := x2) (x3 := x3) (x5 := x5) (x10 := y10) (x11 := x11) (x12 := x12) (x13 := x13) (x14 := x14) (x15 := x15) hi h5 (by omega) hmost (by omega)
      refine ⟨_, _, rfl, _, t', e, q + 1, _, _, rfl, rfl, by omega, by omega, h8.mono (by omega) (by omega) fun a b ⟨z1, z2, z3⟩ => ?_⟩
      rcases z3 with z | z | ⟨z, y⟩ | ⟨z, y⟩
      · exact .inl (.inl ⟨z1, z2, .inl z⟩)
      · exact .inl (.inl ⟨z1, z2, .inr (.inl z)⟩)
      · by_cases hb : b = q
        · exact .inl (.inr ⟨z, hb⟩)
        · exact .inl (.inl ⟨z1, z2, .inr (.inr (.inl ⟨z, by omega⟩))⟩)
      · by_cases ha : a = q
        · exact .inr ⟨ha, z⟩
        · exact .inl (.inl ⟨z1, z2, .inr (.inr (.inr ⟨z, by omega⟩))⟩))
  have hq : q = n := by
    by_cases z : q < n
    · rw [show n - q = (n - (q + 1)) + 1 by omega, rng_cons] at h2
      cases h2
    · omega
  subst hq h1
  refine ⟨y9, y10, t', ?_, h5.mono (by omega) (by omega) fun a b ⟨z1, z2, z3⟩ => ⟨z1, z2, by omega⟩⟩
  have ix : ixRng2 (aCons (xVar 8) (aCons (xVar 1) aNil)) [some (.ref i), some (natD q), x2, x3, some (.int most), x5, some (.ref s.mo.length), some (.bl skew), some (natD o), x9, x10, x11, x12, x13, x14, x15] t = .ok ⟨rngD (o : Int) (q - o), []⟩ t := rng2 (by simp only [RUN]; rfl) (by omega) (by omega)
  unfold B__law_b_shape_3
  simp only [RUN, ix, run]
theorem shape_tab {s t : S} {i m n : Nat} {most : Int} {skew : Bool} {x2 x3 x5 x8 x9 x10 x11 x12 x13 x14 x15 : Option D} (hi : i < s.mo.length) (h : ShI s i m (fun _ _ => False) 0 t) (hm : m < 2 ^ 38) (hn : n ≤ 9) (hmost : 0 < most ∧ most ≤ 9) :
    ∃ y8 y9 y10 t', forRun (gVar 8) B__law_b_shape_3 ⟨rngD 0 n, []⟩ (rngD 0 n) [some (.ref i), some (natD n), x2, x3, some (.int most), x5, some (.ref s.mo.length), some (.bl skew), x8, x9, x10, x11, x12, x13, x14, x15] t = .next [some (.ref i), some (natD n), x2, x3, some (.int most), x5, some (.ref s.mo.length), some (.bl skew), y8, y9, y10, x11, x12, x13, x14, x15] t' ∧
      ShI s i (m + 90) (fun a b => a < n ∧ b < n) 200 t' := by
  obtain ⟨e', t', run, o, y8, y9, y10, h1, h2, h3, h4⟩ := for_run (g := gVar 8) (body := B__law_b_shape_3) (w := ⟨rngD 0 n, []⟩) (e := [some (.ref i), some (natD n), x2, x3, some (.int most), x5, some (.ref s.mo.length), some (.bl skew), x8, x9, x10, x11, x12, x13, x14, x15]) (s := t) (ds := rngD 0 n)
    (fun ds ev t => ∃ (o : Nat) (y8 y9 y10 : Option D), ev = [some (.ref i), some (natD n), x2, x3, some (.int most), x5, some (.ref s.mo.length), some (.bl skew), y8, y9, y10, x11, x12, x13, x14, x15] ∧ ds = rngD (o : Int) (n - o) ∧ o ≤ n ∧ ShI s i (m + 10 * o) (Cov n o o) (20 * o) t)
    ⟨0, x8, x9, x10, rfl, rfl, Nat.zero_le _, h.mono (by omega) (by omega) fun a b ⟨z1, z2, z3⟩ => by omega⟩ (fun _ _ _ _ => same_nil) (fun d ds ev t ⟨o, y8, y9, y10, h1, h2, h3, h4⟩ => by
      subst h1
      have hp : o < n := by
        by_cases z : o < n
        · exact z
        · rw [show n - o = 0 by omega] at h2
          cases h2
      rw [show n - o = (n - (o + 1)) + 1 by omega, rng_cons] at h2
      injection h2 with h6 h7
      subst h6 h7
      obtain ⟨z9, z10, t', e, h8⟩ := shape_b3 (o := o) (skew := skew) (x2 := x2) (x3 := x3) (x5 := x5) (x9 := y9) (x10 := y10) (x11 := x11) (x12 := x12) (x13 := x13) (x14 := x14) (x15 := x15) hi h4 hm hn hp hmost
      exact ⟨_, _, rfl, _, t', e, o + 1, _, _, _, rfl, rfl, hp, h8⟩)
  have hq : o = n := by
    by_cases z : o < n
    · rw [show n - o = (n - (o + 1)) + 1 by omega, rng_cons] at h2
      cases h2
    · omega
  subst hq h1
  exact ⟨y8, y9, y10, t', run, h4.mono (by omega) (by omega) fun a b ⟨z1, z2⟩ => ⟨z1, z2, .inl z1⟩⟩
theorem natD_lot {l : List Nat} {t : S} {e : DV.Env} {j : Nat} (h : e[j]? = some (some (lotD l))) : ixSeq (xVar j) e t = .ok ⟨l.map natD, []⟩ t := by
  rw [r_seqIx, r_var, h]
  rfl
/-- the lots whose determinant is not nought -/
theorem shape_det {s t : S} {i m n c : Nat} {nD x0 x3 x4 x5 x7 x8 x9 x10 x11 x12 x13 x14 x15 : Option D} (h : ShI s i m (fun a b => a < n ∧ b < n) c t) (hn : n ≤ 9) :
    ∃ p : List Nat → Bool, p [] = true ∧ aComp (ixSeq (xVar 2)) (.one 14) T__law_b_shape_6 E__law_b_shape_7 [14] [x0, nD, some (.lst ((bitsL n).map lotD)), x3, x4, x5, some (.ref s.mo.length), x7, x8, x9, x10, x11, x12, x13, x14, x15] t = .ok (((bitsL n).filter p).map lotD) t := by
  obtain ⟨ks, vs, h1, h2, h3⟩ := h.tab
  have hb := bitsL_len n
  have hb2 : 2 ^ n ≤ 2 ^ 9 := Nat.pow_le_pow_right (by decide) (by omega)
  have ent : ∀ a b, a < n → b < n → ∃ x : Int, gIx t (.ref s.mo.length) (.tup [natD a, natD b]) = some (.int x) ∧ x.natAbs < 2 ^ 4 := fun a b ha hb => by
    obtain ⟨x, h4, h5⟩ := h2.2 a b ⟨ha, hb⟩
    exact ⟨x, by rw [ix_refT (q := [.inl (a : Int), .inl (b : Int)]) h1 rfl, h4], h5⟩
  -- each lot's rows
  have each : ∀ l ∈ bitsL n, ∃ k : Int, T__law_b_shape_6 [x0, nD, some (.lst ((bitsL n).map lotD)), x3, x4, x5, some (.ref s.mo.length), x7, x8, x9, x10, x11, x12, x13, some (lotD l), x15] t = .ok (!decide (k = 0)) t ∧ (l = [] → k = 1) := fun l hl => by
    obtain ⟨hl1, hl2⟩ := bitsL_mem hl
    have hll : l.length ≤ n := by
      have := nodup_le (cs := l) (xs := List.range n) (hl1.imp fun z => Nat.ne_of_lt z) fun k hk => List.mem_range.mpr (hl2 k hk)
      rwa [List.length_range] at this
    have tbl : ∃ f : Nat → Nat → Int, ∀ a b, a < n → b < n → gIx t (.ref s.mo.length) (.tup [natD a, natD b]) = some (.int (f a b)) ∧ (f a b).natAbs < 2 ^ 4 := by
      refine ⟨fun a b => if hab : a < n ∧ b < n then (ent a b hab.1 hab.2).choose else 0, fun a b ha hb => ?_⟩
      show gIx t _ _ = some (.int (if hab : a < n ∧ b < n then (ent a b hab.1 hab.2).choose else 0)) ∧ Int.natAbs (if hab : a < n ∧ b < n then (ent a b hab.1 hab.2).choose else 0) < 2 ^ 4
      rw [dif_pos ⟨ha, hb⟩]
      exact (ent a b ha hb).choose_spec
    obtain ⟨f, hf⟩ := tbl
    have inner : ∀ a ∈ l, E__law_b_shape_5 [x0, nD, some (.lst ((bitsL n).map lotD)), x3, x4, x5, some (.ref s.mo.length), x7, some (natD a), x9, x10, x11, x12, x13, some (lotD l), x15] t = .ok (rowI (l.map (f a))) t := fun a ha => by
      have c1 : aComp (ixSeq (xVar 14)) (.one 9) tAll E__law_b_shape_4 [9] [x0, nD, some (.lst ((bitsL n).map lotD)), x3, x4, x5, some (.ref s.mo.length), x7, some (natD a), x9, x10, x11, x12, x13, some (lotD l), x15] t = .ok ((l.map (f a)).map D.int) t := by
        rw [aComp_map (l.map natD) (fun d => match d with | .int k => .int (f a k.toNat) | d => d) (natD_lot rfl) (by rw [List.length_map, line]; omega)]
        · rw [List.map_map, List.map_map]
          rfl
        · intro d hd
          obtain ⟨b, hb, rfl⟩ := List.mem_map.mp hd
          have l2 : ∀ a b : D, decide ([a, b].length ≤ sizeLine) = true := fun _ _ => rfl
          exact ⟨_, rfl, by simp only [E__law_b_shape_4, RUN, l2, (hf a b (hl2 a ha) (hl2 b hb)).1]; rfl⟩
      simp only [E__law_b_shape_5, RUN, c1]
      rfl
    have outer : aComp (ixSeq (xVar 14)) (.one 8) tAll E__law_b_shape_5 [8] [x0, nD, some (.lst ((bitsL n).map lotD)), x3, x4, x5, some (.ref s.mo.length), x7, x8, x9, x10, x11, x12, x13, some (lotD l), x15] t = .ok ((l.map fun a => l.map (f a)).map rowI) t := by
      rw [aComp_map (l.map natD) (fun d => match d with | .int k => rowI (l.map (f k.toNat)) | d => d) (natD_lot rfl) (by rw [List.length_map, line]; omega)]
      · rw [List.map_map, List.map_map]
        rfl
      · intro d hd
        obtain ⟨a, ha, rfl⟩ := List.mem_map.mp hd
        exact ⟨_, rfl, inner a ha⟩
    obtain ⟨k, hk, hk0⟩ := det_ok (s := t) (n := l.length) (rs := l.map fun a => l.map (f a)) ⟨by rw [List.length_map], fun r hr => by
      obtain ⟨a, ha, rfl⟩ := List.mem_map.mp hr
      refine ⟨by rw [List.length_map], fun x hx => ?_⟩
      obtain ⟨b, hb, rfl⟩ := List.mem_map.mp hx
      exact (hf a b (hl2 a ha) (hl2 b hb)).2⟩ (by omega)
    refine ⟨k, ?_, fun z => hk0 (by rw [z]; rfl)⟩
    simp only [T__law_b_shape_6, RUN, outer, hk]
  have each2 : ∃ p : List Nat → Bool, p [] = true ∧ ∀ l ∈ bitsL n, T__law_b_shape_6 [x0, nD, some (.lst ((bitsL n).map lotD)), x3, x4, x5, some (.ref s.mo.length), x7, x8, x9, x10, x11, x12, x13, some (lotD l), x15] t = .ok (p l) t := by
    refine ⟨fun l => if h : l ∈ bitsL n then !decide ((each l h).choose = 0) else true, ?_, fun l hl => ?_⟩
    · show (if h : [] ∈ bitsL n then !decide ((each [] h).choose = 0) else true) = true
      rw [dif_pos (nil_bits n), (each [] (nil_bits n)).choose_spec.2 rfl]
      decide
    · show _ = Out.ok (if h : l ∈ bitsL n then !decide ((each l h).choose = 0) else true) t
      rw [dif_pos hl]
      exact (each l hl).choose_spec.1
  obtain ⟨p, hp, hp2⟩ := each2
  refine ⟨p, hp, ?_⟩
  rw [aComp_if ((bitsL n).map lotD) (fun d => match d with | .lst xs => p (xs.map fun x => match x with | .int k => k.toNat | _ => 0) | _ => false) id (by simp only [RUN]) (by rw [List.length_map, line]; omega), List.map_id, List.filter_map]
  · congr 2
    refine List.filter_congr fun l _ => ?_
    show p ((l.map natD).map _) = p l
    rw [List.map_map]
    congr 1
    refine (List.map_congr_left fun k _ => ?_).trans (List.map_id _)
    show ((k : Int)).toNat = k
    omega
  · intro d hd
    obtain ⟨l, hl, rfl⟩ := List.mem_map.mp hd
    refine ⟨_, rfl, ?_, fun _ => by simp only [E__law_b_shape_7, RUN]; rfl⟩
    refine (hp2 l hl).trans ?_
    show Out.ok (p l) t = Out.ok (p ((l.map natD).map _)) t
    rw [List.map_map]
    congr 2
    refine ((List.map_congr_left fun k _ => ?_).trans (List.map_id _)).symm
    show ((k : Int)).toNat = k
    omega
end K02
end
section
set_option Elab.async false
set_option linter.all false
set_option maxRecDepth 100000
set_option maxHeartbeats 2000000
/-! PH: plain values by types of their own; == on them. -/
namespace DV
open PySem PySem.Spec PyProof.Rows
/-- values of a type as data: == is equality -/
structure Enc {α : Type} [DecidableEq α] (f : α → D) (ok : α → Prop) (k : Nat) where
  p : α → PyData
  pd : ∀ a, ok a → (f a).pd = some (p a)
  lay : ∀ a, ok a → (p a).canLay0 = true
  dep : ∀ a, ok a → (p a).depth ≤ k
  eq : ∀ a b, ok a → ok b → PyData.eqv (p a) (p b) = decide (a = b)
theorem eqD_pd {x y : D} {p q : PyData} (hx : x.pdS = some p) (hy : y.pdS = some q) : eqD x y = some (PyData.eqv p q) := by
  unfold eqD
  split
  · rename_i i j
    cases (pdS_inv hx).1
    cases (pdS_inv hy).1
    show some (decide (i = j)) = some (i == j)
    rfl
  · rename_i a b
    cases (pdS_inv hx).1
    cases (pdS_inv hy).1
    show some (decide (a = b)) = some (a == b)
    rfl
  · rw [hx, hy]
theorem pdS_of {d : D} {p : PyData} (h : d.pd = some p) (hl : p.canLay0 = true) (hd : p.depth ≤ 64) : d.pdS = some p := by
  unfold D.pdS
  rw [h]
  show (if SeqAt.shaped p = true then some p else none) = _
  rw [if_pos]
  unfold SeqAt.shaped
  rw [hl, decide_eq_true hd]
  rfl
section
variable {α : Type} [DecidableEq α] {f : α → D} {ok : α → Prop} {k : Nat} (E : Enc f ok k)
include E
theorem Enc.pdS (hk : k ≤ 64) {a : α} (h : ok a) : (f a).pdS = some (E.p a) := pdS_of (E.pd a h) (E.lay a h) (Nat.le_trans (E.dep a h) hk)
theorem Enc.eqD (hk : k ≤ 64) {a b : α} (ha : ok a) (hb : ok b) : DV.eqD (f a) (f b) = some (decide (a = b)) := by
  rw [eqD_pd (E.pdS hk ha) (E.pdS hk hb), E.eq a b ha hb]
theorem Enc.gEq {s : S} (hk : k ≤ 64) {a b : α} (ha : ok a) (hb : ok b) (va : view s (f a) = f a) (vb : view s (f b) = f b) : DV.gEq s (f a) (f b) = some (.bl (decide (a = b))) := by
  unfold DV.gEq
  rw [va, vb, E.eqD hk ha hb]
theorem Enc.gNe {s : S} (hk : k ≤ 64) {a b : α} (ha : ok a) (hb : ok b) (va : view s (f a) = f a) (vb : view s (f b) = f b) : DV.gNe s (f a) (f b) = some (.bl (!decide (a = b))) := by
  unfold DV.gNe
  rw [va, vb, E.eqD hk ha hb]
theorem Enc.all : ∀ xs : List α, (∀ x ∈ xs, ok x) → D.pds (xs.map f) = some (xs.map E.p) ∧ PyData.canLayAll0 (xs.map E.p) = true ∧ PyData.depthAll (xs.map E.p) ≤ k
  | [], _ => ⟨rfl, rfl, Nat.zero_le _⟩
  | x :: xs, h => by
    obtain ⟨h1, h2, h3⟩ := Enc.all xs fun y hy => h y (List.mem_cons_of_mem _ hy)
    have hx := h x List.mem_cons_self
    refine ⟨?_, ?_, ?_⟩
    · show (match (f x).pd, D.pds (xs.map f) with
        | some a, some b => some (a :: b)
        | _, _ => none) = _
      rw [E.pd x hx, h1]
      rfl
    · show ((E.p x).canLay0 && PyData.canLayAll0 (xs.map E.p)) = true
      rw [E.lay x hx, h2]
      rfl
    · show max (E.p x).depth (PyData.depthAll (xs.map E.p)) ≤ k
      exact Nat.max_le.mpr ⟨E.dep x hx, h3⟩
theorem Enc.eqAll : ∀ xs ys : List α, (∀ x ∈ xs, ok x) → (∀ x ∈ ys, ok x) → PyData.eqvAll (xs.map E.p) (ys.map E.p) = decide (xs = ys)
  | [], [], _, _ => rfl
  | [], _ :: _, _, _ => rfl
  | _ :: _, [], _, _ => rfl
  | x :: xs, y :: ys, hx, hy => by
    show (PyData.eqv (E.p x) (E.p y) && PyData.eqvAll (xs.map E.p) (ys.map E.p)) = _
    rw [E.eq x y (hx x List.mem_cons_self) (hy y List.mem_cons_self), Enc.eqAll xs ys (fun z hz => hx z (List.mem_cons_of_mem _ hz)) fun z hz => hy z (List.mem_cons_of_mem _ hz), Bool.eq_iff_iff]
    simp
end
def encInt : Enc D.int (fun _ => True) 0 := ⟨.int, fun _ _ => rfl, fun _ _ => rfl, fun _ _ => Nat.le_refl _, fun a b _ _ => rfl⟩
def encNat : Enc (fun k : Nat => D.int (k : Int)) (fun _ => True) 0 := ⟨fun k => .int (k : Int), fun _ _ => rfl, fun _ _ => rfl, fun _ _ => Nat.le_refl _, fun a b _ _ => by
  show decide ((a : Int) = (b : Int)) = decide (a = b)
  rw [Bool.eq_iff_iff, decide_eq_true_eq, decide_eq_true_eq]
  exact Int.ofNat_inj⟩
def encBool : Enc D.bl (fun _ => True) 0 := ⟨.bool, fun _ _ => rfl, fun _ _ => rfl, fun _ _ => Nat.le_refl _, fun a b _ _ => by cases a <;> cases b <;> rfl⟩
def encStr : Enc D.str (fun x => PySem.PyData.strOk x = true) 0 := ⟨.str, fun _ _ => rfl, fun _ h => h, fun _ _ => Nat.le_refl _, fun a b _ _ => rfl⟩
def Enc.lst {α : Type} [DecidableEq α] {f : α → D} {ok : α → Prop} {k : Nat} (E : Enc f ok k) : Enc (fun l : List α => D.lst (l.map f)) (fun l => ∀ x ∈ l, ok x) (k + 1) where
  p l := .list (l.map E.p)
  pd l h := by
    show (match D.pds (l.map f) with
      | some l => some (PyData.list l)
      | none => none) = _
    rw [(E.all l h).1]
  lay l h := (E.all l h).2.1
  dep l h := Nat.succ_le_succ (E.all l h).2.2
  eq a b ha hb := E.eqAll a b ha hb
def Enc.tup {α : Type} [DecidableEq α] {f : α → D} {ok : α → Prop} {k : Nat} (E : Enc f ok k) : Enc (fun l : List α => D.tup (l.map f)) (fun l => ∀ x ∈ l, ok x) (k + 1) where
  p l := .tuple (l.map E.p)
  pd l h := by
    show (match D.pds (l.map f) with
      | some l => some (PyData.tuple l)
      | none => none) = _
    rw [(E.all l h).1]
  lay l h := (E.all l h).2.1
  dep l h := Nat.succ_le_succ (E.all l h).2.2
  eq a b ha hb := E.eqAll a b ha hb
/-- a number among numbers -/
theorem in_nats {s : S} {k : Nat} {l : List Nat} : gIn s (.int (k : Int)) (.lst (l.map fun k : Nat => D.int (k : Int))) = some (.bl (decide (k ∈ l))) := by
  have h : ∀ l : List Nat, fls (l.map fun k : Nat => D.int (k : Int)) = some (l.map fun k : Nat => L2.V.int (k : Int)) := fun l => by
    induction l with
    | nil => rfl
    | cons x xs ih =>
      show (match fl (.int (x : Int)), fls (xs.map fun k : Nat => D.int (k : Int)) with
        | some a, some b => some (a :: b)
        | _, _ => none) = _
      rw [ih]
      rfl
  have e : inD s (.int (k : Int)) (.lst (l.map fun k : Nat => D.int (k : Int))) = inLst (.int (k : Int)) (l.map fun k : Nat => D.int (k : Int)) := rfl
  unfold gIn
  rw [e]
  unfold inLst
  rw [h]
  show some (D.bl (L2.inV (L2.V.int (k : Int)) (l.map fun k : Nat => L2.V.int (k : Int)))) = _
  congr 2
  unfold L2.inV
  rw [List.any_map, Bool.eq_iff_iff, List.any_eq_true, decide_eq_true_eq]
  constructor
  · rintro ⟨x, hx, e⟩
    have e : ((x : Int) == (k : Int)) = true := e
    have : x = k := by have := eq_of_beq e; omega
    exact this ▸ hx
  · intro h
    exact ⟨k, h, by show ((k : Int) == (k : Int)) = true; exact beq_self_eq_true _⟩
/-- a text among texts -/
theorem in_strs {s : S} {k : Str} {l : List Str} : gIn s (.str k) (.lst (l.map D.str)) = some (.bl (decide (k ∈ l))) := by
  have h : ∀ l : List Str, fls (l.map D.str) = some (l.map L2.V.str) := fun l => by
    induction l with
    | nil => rfl
    | cons x xs ih =>
      show (match fl (.str x), fls (xs.map D.str) with
        | some a, some b => some (a :: b)
        | _, _ => none) = _
      rw [ih]
      rfl
  have e : inD s (.str k) (.lst (l.map D.str)) = inLst (.str k) (l.map D.str) := rfl
  unfold gIn
  rw [e]
  unfold inLst
  rw [h]
  show some (D.bl (L2.inV (L2.V.str k) (l.map L2.V.str))) = _
  congr 2
  unfold L2.inV
  rw [List.any_map, Bool.eq_iff_iff, List.any_eq_true, decide_eq_true_eq]
  constructor
  · rintro ⟨x, hx, e⟩
    have e : (x == k) = true := e
    exact (eq_of_beq e) ▸ hx
  · intro h
    exact ⟨k, h, by show (k == k) = true; exact beq_self_eq_true _⟩
/-- ascending rows with the same members -/
theorem asc_ext : ∀ {l l' : List Nat}, l.Pairwise (· < ·) → l'.Pairwise (· < ·) → (∀ k, k ∈ l ↔ k ∈ l') → l = l'
  | [], [], _, _, _ => rfl
  | [], y :: ys, _, _, h => by have := (h y).mpr List.mem_cons_self; cases this
  | x :: xs, [], _, _, h => by have := (h x).mp List.mem_cons_self; cases this
  | x :: xs, y :: ys, h1, h2, h => by
    obtain ⟨a1, a2⟩ := List.pairwise_cons.mp h1
    obtain ⟨b1, b2⟩ := List.pairwise_cons.mp h2
    have e : x = y := by
      rcases List.mem_cons.mp ((h x).mp List.mem_cons_self) with z | z
      · exact z
      · rcases List.mem_cons.mp ((h y).mpr List.mem_cons_self) with w | w
        · exact w.symm
        · have := b1 x z
          have := a1 y w
          omega
    subst e
    congr 1
    refine asc_ext a2 b2 fun k => ⟨fun hk => ?_, fun hk => ?_⟩
    · rcases List.mem_cons.mp ((h k).mp (List.mem_cons_of_mem _ hk)) with z | z
      · subst z
        have := a1 k hk
        omega
      · exact z
    · rcases List.mem_cons.mp ((h k).mpr (List.mem_cons_of_mem _ hk)) with z | z
      · subst z
        have := b1 k hk
        omega
      · exact z
end DV
end
section
set_option Elab.async false
set_option linter.all false
set_option maxRecDepth 100000
set_option maxHeartbeats 4000000
namespace K02
open DV PySem
/-- within a frame: what was there before stays, the spring apart -/
structure FrI (s : S) (i m : Nat) (t : S) : Prop where
  tg : t.tg = s.tg
  len : s.mo.length ≤ t.mo.length
  old : ∀ j, j ≠ i → j < s.mo.length → t.mo[j]? = s.mo[j]?
  sp : Spr t i m
theorem FrI.drew {s t t' : S} {i m n : Nat} (h : FrI s i m t) (d : Drew t i n t') : FrI s i n t' :=
  ⟨d.tg.trans h.tg, by rw [d.len]; exact h.len, fun j j1 j2 => (d.old j1).trans (h.old j j1 j2), d.spr⟩
theorem FrI.of {s t : S} {i m : Nat} (d : Drew s i m t) : FrI s i m t := ⟨d.tg, Nat.le_of_eq d.len.symm, fun j j1 _ => d.old j1, d.spr⟩
theorem ShI.fr {s t : S} {i m c : Nat} {P : Nat → Nat → Prop} (h : ShI s i m P c t) : FrI s i m t := ⟨h.tg, by rw [h.len]; omega, h.old, h.sp⟩
theorem FrI.sh {s t t' : S} {i m c : Nat} {P : Nat → Nat → Prop} (h : FrI s i m t) (h' : ShI t i m P c t') : FrI s i m t' :=
  ⟨h'.tg.trans h.tg, by have := h.len; rw [h'.len]; omega, fun j j1 j2 => (h'.old j j1 (by have := h.len; omega)).trans (h.old j j1 j2), h'.sp⟩
theorem FrI.mono {s t : S} {i m n : Nat} (h : FrI s i m t) (hn : m ≤ n) : FrI s i n t := ⟨h.tg, h.len, h.old, spr_le h.sp hn⟩
theorem pickL {t : S} {i m : Nat} {ls : List (List Nat)} (sp : Spr t i m) (hm : m < 2 ^ 40) (hz : ls ≠ []) (hl : ls.length < 1000) : ∃ l t', l ∈ ls ∧ F__law_pick t [.ref i, .lst (ls.map lotD)] = .ok (lotD l) t' ∧ Drew t i (m + 1) t' := by
  obtain ⟨x, t', hx, e, dr⟩ := pick_ok (xs := ls.map lotD) sp hm (by simpa using hz) (by rw [List.length_map]; omega) (fun x hx => by
    obtain ⟨c, _, rfl⟩ := List.mem_map.mp hx
    exact low_lot)
  obtain ⟨c, hc, rfl⟩ := List.mem_map.mp hx
  exact ⟨c, t', hc, e, dr⟩
theorem ne_lot {t : S} {a b : List Nat} : gNe t (lotD a) (lotD b) = some (.bl (!decide (a = b))) := encNat.lst.gNe (by decide) (fun _ _ => trivial) (fun _ _ => trivial) rfl rfl
/-- items are filtered by a test that asks nothing of the state -/
theorem comp_filter {j : Nat} {t : S} {env : DV.Env} {c : Nat} {tst : Tx} {elt : Ex} {ls : List (List Nat)} (p : List Nat → Bool) (hj : env[j]? = some (some (.lst (ls.map lotD)))) (hl : ls.length ≤ sizeLine)
    (h1 : ∀ l ∈ ls, tst ((wipeE env [c]).set c (some (lotD l))) t = .ok (p l) t) (h2 : ∀ l ∈ ls, elt ((wipeE env [c]).set c (some (lotD l))) t = .ok (lotD l) t) : aComp (ixSeq (xVar j)) (.one c) tst elt [c] env t = .ok ((ls.filter p).map lotD) t := by
  have back : ∀ l : List Nat, ((l.map natD).map fun x => match x with | .int k => k.toNat | _ => 0) = l := fun l => by
    rw [List.map_map]
    refine (List.map_congr_left fun k _ => ?_).trans (List.map_id _)
    show ((k : Int)).toNat = k
    omega
  rw [aComp_if (ls.map lotD) (fun d => match d with | .lst xs => p (xs.map fun x => match x with | .int k => k.toNat | _ => 0) | _ => false) id (by rw [r_seqIx, r_var, hj]; rfl) (by rw [List.length_map]; exact hl), List.map_id, List.filter_map]
  · congr 2
    refine List.filter_congr fun l _ => ?_
    show p ((l.map natD).map _) = p l
    rw [back]
  · intro d hd
    obtain ⟨l, hl, rfl⟩ := List.mem_map.mp hd
    refine ⟨_, rfl, (h1 l hl).trans ?_, fun _ => h2 l hl⟩
    show Out.ok (p l) t = Out.ok (p ((l.map natD).map _)) t
    rw [back]
/-- a lot turned at another -/
def turnL (n : Nat) (l g : List Nat) : List Nat := (List.range n).filter fun k => decide (k ∈ l) != decide (k ∈ g)
theorem turnL_asc {n : Nat} {l g : List Nat} : (turnL n l g).Pairwise (· < ·) ∧ ∀ k ∈ turnL n l g, k < n :=
  ⟨List.pairwise_lt_range.filter _, fun k hk => List.mem_range.mp (List.mem_filter.mp hk).1⟩
theorem turnL_inj {n : Nat} {l l' g : List Nat} (h1 : l.Pairwise (· < ·) ∧ ∀ k ∈ l, k < n) (h2 : l'.Pairwise (· < ·) ∧ ∀ k ∈ l', k < n) (e : turnL n l g = turnL n l' g) : l = l' := by
  refine asc_ext h1.1 h2.1 fun k => ?_
  by_cases hk : k < n
  · have e2 : k ∈ turnL n l g ↔ k ∈ turnL n l' g := by rw [e]
    unfold turnL at e2
    rw [List.mem_filter, List.mem_filter] at e2
    have hr : k ∈ List.range n := List.mem_range.mpr hk
    by_cases a : k ∈ l <;> by_cases b : k ∈ l' <;> by_cases c : k ∈ g <;> simp [hr, a, b, c] at e2 ⊢
  · exact ⟨fun z => absurd (h1.2 k z) hk, fun z => absurd (h2.2 k z) hk⟩
/-- all lots turned -/
theorem shape_turn {t : S} {n : Nat} {g : List Nat} {b : List (List Nat)} {x0 x2 x3 x4 x6 x7 x8 x9 x10 x11 x12 x14 x15 : Option D} (hn : n ≤ 9) (hb : b.length < 1000) :
    aComp (ixSeq (xVar 5)) (.one 14) tAll E__law_b_shape_14 [14] [x0, some (natD n), x2, x3, x4, some (.lst (b.map lotD)), x6, x7, x8, x9, x10, x11, x12, some (lotD g), x14, x15] t = .ok ((b.map fun l => turnL n l g).map lotD) t := by
  have back : ∀ l : List Nat, ((l.map natD).map fun x => match x with | .int k => k.toNat | _ => 0) = l := fun l => by
    rw [List.map_map]
    refine (List.map_congr_left fun k _ => ?_).trans (List.map_id _)
    show ((k : Int)).toNat = k
    omega
  rw [aComp_map (b.map lotD) (fun d => match d with | .lst xs => lotD (turnL n (xs.map fun x => match x with | .int k => k.toNat | _ => 0) g) | d => d) (by simp only [RUN]) (by rw [List.length_map, line]; omega)]
  · rw [List.map_map, List.map_map]
    refine congrArg (fun l => Out.ok l t) (List.map_congr_left fun l _ => ?_)
    show lotD (turnL n ((l.map natD).map _) g) = lotD (turnL n l g)
    rw [back]
  · intro d hd
    obtain ⟨l, hl, rfl⟩ := List.mem_map.mp hd
    refine ⟨_, rfl, ?_⟩
    show E__law_b_shape_14 [x0, some (natD n), x2, x3, x4, some (.lst (b.map lotD)), x6, x7, x8, x9, x10, x11, x12, some (lotD g), some (lotD l), x15] t = Out.ok (lotD (turnL n ((l.map natD).map _) g)) t
    rw [back]
    have c1 : aComp (ixRng1 (aCons (xVar 1) aNil)) (.one 15) T__law_b_shape_12 E__law_b_shape_13 [15] [x0, some (natD n), x2, x3, x4, some (.lst (b.map lotD)), x6, x7, x8, x9, x10, x11, x12, some (lotD g), some (lotD l), x15] t = .ok ((turnL n l g).map natD) t := by
      have ix : ixRng1 (aCons (xVar 1) aNil) [x0, some (natD n), x2, x3, x4, some (.lst (b.map lotD)), x6, x7, x8, x9, x10, x11, x12, some (lotD g), some (lotD l), x15] t = .ok ⟨rngD 0 n, []⟩ t := rng1 (by simp only [RUN]; rfl) (by omega)
      rw [aComp_if (rngD 0 n) (fun d => match d with | .int k => decide (k.toNat ∈ l) != decide (k.toNat ∈ g) | _ => false) id ix (by rw [rng_len, line]; omega), List.map_id]
      · unfold rngD turnL
        rw [List.filter_map]
        have e : ∀ k : Nat, D.int ((0 : Int) + (k : Int)) = natD k := fun k => by
          show D.int _ = D.int _
          rw [Int.zero_add]
        refine congrArg (fun l => Out.ok l t) ?_
        rw [show (List.range n).filter (fun k => decide (k ∈ l) != decide (k ∈ g)) = (List.range n).filter ((fun d : D => match d with | .int k => decide (k.toNat ∈ l) != decide (k.toNat ∈ g) | _ => false) ∘ fun i : Nat => D.int ((0 : Int) + (i : Int))) from List.filter_congr fun k _ => by
          show _ = (decide ((((0 : Int) + (k : Int))).toNat ∈ l) != decide ((((0 : Int) + (k : Int))).toNat ∈ g))
          rw [Int.zero_add, Int.toNat_natCast]]
        exact List.map_congr_left fun k _ => e k
      · intro d hd
        obtain ⟨k, hk, rfl⟩ := rng_mem hd
        rw [Int.zero_add]
        have i1 : gIn t (.int (k : Int)) (lotD l) = some (.bl (decide (k ∈ l))) := in_nats
        have i2 : gIn t (.int (k : Int)) (lotD g) = some (.bl (decide (k ∈ g))) := in_nats
        refine ⟨_, rfl, ?_, fun _ => by simp only [E__law_b_shape_13, RUN]; rfl⟩
        simp only [T__law_b_shape_12, RUN, i1, i2, Int.toNat_natCast]
        congr 1
    have e1 : (turnL n l g).map natD = ((turnL n l g).map fun k : Nat => (k : Int)).map D.int := by rw [List.map_map]; rfl
    have hl2 : (turnL n l g).length ≤ n := by
      have := List.length_filter_le (fun k => decide (k ∈ l) != decide (k ∈ g)) (List.range n)
      rw [List.length_range] at this
      exact this
    have srt : gSorted t (.lst ((turnL n l g).map natD)) = some ((turnL n l g).map natD) := by
      rw [e1, sorted_ints (by rw [List.length_map, line]; omega), sortI_id]
      refine List.Pairwise.map _ (fun a b hab => ?_) turnL_asc.1
      omega
    simp only [E__law_b_shape_14, RUN, c1, srt]
    rfl
theorem filt_sub {b : List (List Nat)} {p : List Nat → Bool} : (b.filter p).Sublist b := List.filter_sublist
/-- by a table, or not -/
theorem shape_x {s t3 : S} {i m n : Nat} {a : List (List Nat)} {mn mo : Int} (hi : i < s.mo.length) (hm : m < 2 ^ 37) (hn : n ≤ 9) (hmo2 : 0 < mo ∧ mo ≤ 9) (ha : a.Sublist (bitsL n)) (f3 : FrI s i (m + 1026) t3) (hbl3 : (bitsL n).length < 1000) :
    ∃ (b : List (List Nat)) (x6 x7 x8 x9 x10 x11 : Option D) (t4 : S), (sIf (tVal (xBin gIn (xVar 3) (xFz (aLst (aCons (xC (.int 1)) (aCons (xC (.int 2)) (aCons (xC (.int 3)) aNil))))))) (sSeq (sAsg (xTup (aCons xDT (aCons (xBin gGt (xCall F__law_draw (aCons (xVar 0) (aCons (xC (.int 2)) aNil))) (xC (.int 0))) aNil))) (gUnp 2 (gsCons (gVar 6) (gsCons (gVar 7) gsNil))))
 (sSeq (sFor (ixRng1 (aCons (xVar 1) aNil)) (gVar 8) B__law_b_shape_3)
 (sSeq (sAsg (xFz (aComp (ixSeq (xVar 2)) (.one 14) T__law_b_shape_6 E__law_b_shape_7 [14])) (gVar 5))
 (sIf (tVal (xBin gEq (xVar 3) (xC (.int 3)))) (sSeq (sAsg (xCall F__law_pick (aCons (xVar 0) (aCons (xVar 5) aNil))) (gVar 11))
 (sAsg (xOrT (xFz (aComp (ixSeq (xVar 5)) (.one 14) T__law_b_shape_8 E__law_b_shape_9 [14])) (xVar 5)) (gVar 5)))
 sNext))))
 sNext) [some (.ref i), some (natD n), some (.lst ((bitsL n).map lotD)), some (.int mn), some (.int mo), some (.lst (a.map lotD)), none, none, none, none, none, none, none, none, none, none] t3 = .next [some (.ref i), some (natD n), some (.lst ((bitsL n).map lotD)), some (.int mn), some (.int mo), some (.lst (b.map lotD)), x6, x7, x8, x9, x10, x11, none, none, none, none] t4 ∧ b.Sublist (bitsL n) ∧ FrI s i (m + 1200) t4 := by
  have l3 : decide ([D.int 1, D.int 2, D.int 3].length ≤ sizeLine) = true := rfl
  have l2 : ∀ a b : D, decide ([a, b].length ≤ sizeLine) = true := fun _ _ => rfl
  have inm : ∃ b, ∀ t, gIn t (.int mn) (.lst [.int 1, .int 2, .int 3]) = some (.bl b) := ⟨_, fun _ => rfl⟩
  obtain ⟨bm, inm⟩ := inm
  cases bm with
  | false =>
    refine ⟨a, none, none, none, none, none, none, t3, ?_, ha, f3.mono (by omega)⟩
    simp only [RUN, l3, inm]
  | true =>
    obtain ⟨sk, t5, e5, _, _, d5⟩ := draw_ok (s := t3.own (.dT [] [])) (n := 2) (spr_own f3.sp) (by omega) (by decide) (by decide)
    have hi3 : i < t3.mo.length := by have := f3.len; omega
    have hN3 : t3.mo.length ≠ i := by omega
    have sh : ShI t3 i (m + 1027) (fun _ _ => False) 0 t5 := ⟨d5.tg.trans rfl, by rw [d5.len]; exact own_len, fun j j1 j2 => (d5.old j1).trans (own_old j2), d5.spr, [], [], (d5.old hN3).trans own_get, ⟨rfl, fun _ _ z => z.elim⟩, Nat.le_refl _⟩
    obtain ⟨y8, y9, y10, t6, e6, sh6⟩ := shape_tab (skew := decide (0 < sk)) (x2 := some (.lst ((bitsL n).map lotD))) (x3 := some (.int mn)) (x5 := some (.lst (a.map lotD))) (x8 := none) (x9 := none) (x10 := none) (x11 := none) (x12 := none) (x13 := none) (x14 := none) (x15 := none) hi3 sh (by omega) hn hmo2
    obtain ⟨p, hp, e7⟩ := shape_det (nD := some (natD n)) (x0 := some (.ref i)) (x3 := some (.int mn)) (x4 := some (.int mo)) (x5 := some (.lst (a.map lotD))) (x7 := some (.bl (decide (0 < sk)))) (x8 := y8) (x9 := y9) (x10 := y10) (x11 := none) (x12 := none) (x13 := none) (x14 := none) (x15 := none) sh6 hn
    have f6 : FrI s i (m + 1117) t6 := (f3.mono (by omega)).sh (sh6.mono (Nat.le_refl _) (Nat.le_refl _) fun _ _ z => z)
    have ix : ixRng1 (aCons (xVar 1) aNil) [some (.ref i), some (natD n), some (.lst ((bitsL n).map lotD)), some (.int mn), some (.int mo), some (.lst (a.map lotD)), some (.ref t3.mo.length), some (.bl (decide (0 < sk))), none, none, none, none, none, none, none, none] t5 = .ok ⟨rngD 0 n, []⟩ t5 := rng1 (by simp only [RUN]; rfl) (by omega)
    by_cases h3 : mn = 3
    · have hne : (bitsL n).filter p ≠ [] := List.ne_nil_of_mem (List.mem_filter.mpr ⟨nil_bits n, hp⟩)
      have hfl : ((bitsL n).filter p).length < 1000 := Nat.lt_of_le_of_lt (List.length_filter_le _ _) hbl3
      obtain ⟨g, t7, hg, e8, d7⟩ := pickL f6.sp (by omega) hne hfl
      have e9 : aComp (ixSeq (xVar 5)) (.one 14) T__law_b_shape_8 E__law_b_shape_9 [14] [some (.ref i), some (natD n), some (.lst ((bitsL n).map lotD)), some (.int mn), some (.int mo), some (.lst (((bitsL n).filter p).map lotD)), some (.ref t3.mo.length), some (.bl (decide (0 < sk))), y8, y9, y10, some (lotD g), none, none, none, none] t7 = .ok ((((bitsL n).filter p).filter fun l => !decide (l = g)).map lotD) t7 :=
        comp_filter (fun l => !decide (l = g)) rfl (by rw [line]; omega) (fun l _ => by
          simp only [T__law_b_shape_8, RUN, ne_lot]) (fun l _ => by simp only [E__law_b_shape_9, RUN])
      have d33 : decide (mn = 3) = true := decide_eq_true h3
      by_cases hz : ((bitsL n).filter p).filter (fun l => !decide (l = g)) = []
      · rw [hz] at e9
        refine ⟨(bitsL n).filter p, some (.ref t3.mo.length), some (.bl (decide (0 < sk))), y8, y9, y10, some (lotD g), t7, ?_, filt_sub, (f6.drew d7).mono (by omega)⟩
        simp only [RUN, l3, inm, l2, e5, ix, e6, e7, d33, e8, e9, List.map_nil, List.isEmpty_nil, Bool.not_true]
      · refine ⟨((bitsL n).filter p).filter (fun l => !decide (l = g)), some (.ref t3.mo.length), some (.bl (decide (0 < sk))), y8, y9, y10, some (lotD g), t7, ?_, filt_sub.trans filt_sub, (f6.drew d7).mono (by omega)⟩
        have te : (!((((bitsL n).filter p).filter fun l => !decide (l = g)).map lotD).isEmpty) = true := by
          cases hq : ((bitsL n).filter p).filter (fun l => !decide (l = g)) with
          | nil => exact absurd hq hz
          | cons _ _ => rfl
        simp only [RUN, l3, inm, l2, e5, ix, e6, e7, d33, e8, e9, te]
    · have d33 : decide (mn = 3) = false := decide_eq_false h3
      refine ⟨(bitsL n).filter p, some (.ref t3.mo.length), some (.bl (decide (0 < sk))), y8, y9, y10, none, t6, ?_, filt_sub, f6.mono (by omega)⟩
      simp only [RUN, l3, inm, l2, e5, ix, e6, e7, d33]
/-- by sizes, or not -/
theorem shape_y {s t4 : S} {i m n : Nat} {b : List (List Nat)} {mn mo : Int} {x6 x7 x8 x9 x10 x11 : Option D} (hm : m < 2 ^ 37) (hn : n ≤ 9) (hb : b.Sublist (bitsL n)) (f4 : FrI s i (m + 1200) t4) (hbl3 : (bitsL n).length < 1000) :
    ∃ (b' : List (List Nat)) (x12 : Option D) (t5 : S), (sIf (tVal (xBin gEq (xVar 3) (xC (.int 4)))) (sSeq (sAsg (xFz (aLst (aCons (xCall F__law_draw (aCons (xVar 0) (aCons (xBin gAdd (xVar 1) (xC (.int 1))) aNil))) (aCons (xCall F__law_draw (aCons (xVar 0) (aCons (xBin gAdd (xVar 1) (xC (.int 1))) aNil))) aNil)))) (gVar 12))
 (sAsg (xFz (aComp (ixSeq (xVar 2)) (.one 14) T__law_b_shape_10 E__law_b_shape_11 [14])) (gVar 5)))
 sNext) [some (.ref i), some (natD n), some (.lst ((bitsL n).map lotD)), some (.int mn), some (.int mo), some (.lst (b.map lotD)), x6, x7, x8, x9, x10, x11, none, none, none, none] t4 = .next [some (.ref i), some (natD n), some (.lst ((bitsL n).map lotD)), some (.int mn), some (.int mo), some (.lst (b'.map lotD)), x6, x7, x8, x9, x10, x11, x12, none, none, none] t5 ∧ b'.Sublist (bitsL n) ∧ FrI s i (m + 1300) t5 := by
  have l2 : ∀ a b : D, decide ([a, b].length ≤ sizeLine) = true := fun _ _ => rfl
  by_cases h4 : mn = 4
  · have d44 : decide (mn = 4) = true := decide_eq_true h4
    obtain ⟨q1, t5, e5, _, _, d5⟩ := draw_ok (n := (n : Int) + 1) f4.sp (by omega) (by omega) (by omega)
    obtain ⟨q2, t6, e6, _, _, d6⟩ := draw_ok (n := (n : Int) + 1) d5.spr (by omega) (by omega) (by omega)
    have ins : ∃ f : Nat → Bool, ∀ (t : S) (k : Nat), gIn t (.int (k : Int)) (.lst [.int q1, .int q2]) = some (.bl (f k)) := ⟨_, fun _ _ => rfl⟩
    obtain ⟨f, ins⟩ := ins
    have e7 : aComp (ixSeq (xVar 2)) (.one 14) T__law_b_shape_10 E__law_b_shape_11 [14] [some (.ref i), some (natD n), some (.lst ((bitsL n).map lotD)), some (.int mn), some (.int mo), some (.lst (b.map lotD)), x6, x7, x8, x9, x10, x11, some (.lst [.int q1, .int q2]), none, none, none] t6 = .ok (((bitsL n).filter fun l => f l.length).map lotD) t6 :=
      comp_filter (fun l => f l.length) rfl (by rw [line]; omega) (fun l _ => by
        simp only [T__law_b_shape_10, RUN, lotD, List.length_map, ins]) (fun l _ => by simp only [E__law_b_shape_11, RUN])
    refine ⟨(bitsL n).filter fun l => f l.length, some (.lst [.int q1, .int q2]), t6, ?_, filt_sub, ((f4.drew d5).drew d6).mono (by omega)⟩
    have nd : natD n = .int (n : Int) := rfl
    simp only [nd] at e7 ⊢
    simp only [RUN, d44, e5, e6, l2, e7]
  · have d44 : decide (mn = 4) = false := decide_eq_false h4
    refine ⟨b, none, t4, ?_, hb, f4.mono (by omega)⟩
    simp only [RUN, d44]
theorem shape_ok {s : S} {i m n : Nat} (sp : Spr s i m) (hm : m < 2 ^ 37) (hn : n ≤ 9) :
    ∃ ls s', F__law_b_shape s [.ref i, natD n] = .ok (.lst (ls.map lotD)) s' ∧ Drew s i (m + 2000) s' ∧ ls ≠ [] ∧ ls.Nodup ∧ ls.length < 1000 ∧ ∀ l ∈ ls, l.Pairwise (· < ·) ∧ ∀ k ∈ l, k < n := by
  have hi := spr_lt sp
  have hbl := bitsL_len n
  have hbl2 : 2 ^ n ≤ 2 ^ 9 := Nat.pow_le_pow_right (by decide) (by omega)
  have hbl3 : (bitsL n).length < 1000 := by omega
  have bits : ∀ t, F__law_b_bits t [natD n] = .ok (.lst ((bitsL n).map lotD)) t := fun t => bits_ok hn
  obtain ⟨mn, t1, e1, mn0, mn1, d1⟩ := draw_ok (n := 6) sp (by omega) (by decide) (by decide)
  obtain ⟨mo, t2, hmo, e2, d2⟩ := pickI (ks := [1, 1, 2, 9]) d1.spr (by omega) (by simp) (by simp)
  have hmo2 : 0 < mo ∧ mo ≤ 9 := by
    simp only [List.mem_cons, List.mem_nil_iff, or_false] at hmo
    omega
  have e2' : F__law_pick t1 [.ref i, .lst [.int 1, .int 1, .int 2, .int 9]] = .ok (.int mo) t2 := e2
  obtain ⟨a, t3, e3, ha, d3⟩ := shape_a (t := t2) (i := i) (n := n) (nD := some (natD n)) (x3 := some (.int mn)) (x4 := some (.int mo)) (x5 := none) (x6 := none) (x7 := none) (x8 := none) (x9 := none) (x10 := none) (x11 := none) (x12 := none) (x13 := none) (x14 := none) (x15 := none) d2.spr (by omega) hn
  have f3 : FrI s i (m + 1026) t3 := (FrI.of ((d1.trans d2).trans d3)).mono (by omega)
  have l4 : decide ([D.int 1, D.int 1, D.int 2, D.int 9].length ≤ sizeLine) = true := rfl
  have l1 : ∀ a : D, decide ([a].length ≤ sizeLine) = true := fun _ => rfl
  have tab := shape_x (mn := mn) (mo := mo) hi hm hn hmo2 ha f3 hbl3
  obtain ⟨b, x6, x7, x8, x9, x10, x11, t4, e4, hb, f4⟩ := tab
  -- by sizes, or not
  have siz := shape_y (mn := mn) (mo := mo) (x6 := x6) (x7 := x7) (x8 := x8) (x9 := x9) (x10 := x10) (x11 := x11) hm hn hb f4 hbl3
  obtain ⟨b', x12, t5, e5, hb', f5⟩ := siz
  obtain ⟨g, t6, hg, e6, d6⟩ := pickL f5.sp (by omega) (List.ne_nil_of_mem (nil_bits n)) hbl3
  have f6 := f5.drew d6
  have hbl' : b'.length < 1000 := Nat.lt_of_le_of_lt hb'.length_le hbl3
  have trn := shape_turn (t := t6) (n := n) (g := g) (b := b') (x0 := some (.ref i)) (x2 := some (.lst ((bitsL n).map lotD))) (x3 := some (.int mn)) (x4 := some (.int mo)) (x6 := x6) (x7 := x7) (x8 := x8) (x9 := x9) (x10 := x10) (x11 := x11) (x12 := x12) (x14 := none) (x15 := none) hn hbl'
  have fin : endDef s (m__law_b_shape [some (.ref i), some (natD n), none, none, none, none, none, none, none, none, none, none, none, none, none, none] s) = fin s (.lst ((if b' = [] then [g] else b'.map fun l => turnL n l g).map lotD)) t6 := by
    unfold m__law_b_shape
    simp only [r_par3, r_call, r_cons, r_nil, r_var, g_0, g_S, bind_ok, bits, r_C, e1, r_fz, r_aLst, l4, cIf_t, e2', fl_ok, s_0, s_S, then_next, r_seq, r_asg, e3, r_gVar, r_gAsg, e4, e5, e6, trn]
    by_cases hz : b' = []
    · subst hz
      simp only [r_ret, r_orT, r_var, g_0, g_S, bind_ok, List.map_nil, t_lst, List.isEmpty_nil, Bool.not_true, of_some, cIf_f, r_fz, r_aLst, r_cons, r_nil, l1, cIf_t, fl_ok, end_ret, if_true]
      rfl
    · have te : (!((b'.map fun l => turnL n l g).map lotD).isEmpty) = true := by
        cases b' with
        | nil => exact absurd rfl hz
        | cons _ _ => rfl
      simp only [r_ret, r_orT, r_var, g_0, g_S, bind_ok, t_lst, te, of_some, cIf_t, fl_ok, end_ret, if_neg hz]
  refine ⟨if b' = [] then [g] else b'.map fun l => turnL n l g, back s t6, ?_, .back f6.len f6.old (spr_le f6.sp (by omega)) hi, ?_, ?_, ?_, ?_⟩
  · have start : F__law_b_shape s [.ref i, natD n] = endDef s (m__law_b_shape [some (.ref i), some (natD n), none, none, none, none, none, none, none, none, none, none, none, none, none, none] s) := run_def rfl
    rw [start, fin, fin_lst lows_lot]
  · by_cases hz : b' = []
    · rw [if_pos hz]
      simp
    · rw [if_neg hz]
      simpa using hz
  · by_cases hz : b' = []
    · rw [if_pos hz]
      simp
    · rw [if_neg hz]
      refine List.pairwise_map.mpr ?_
      have nd := hb'.nodup (bitsL_nodup n)
      refine nd.imp_of_mem fun {x y} hx hy ne z => ne (turnL_inj (bitsL_mem (hb'.subset hx)) (bitsL_mem (hb'.subset hy)) z)
  · by_cases hz : b' = []
    · rw [if_pos hz]
      show 1 < 1000
      omega
    · rw [if_neg hz, List.length_map]
      exact hbl'
  · by_cases hz : b' = []
    · rw [if_pos hz]
      intro l hl
      rw [List.mem_singleton.mp hl]
      exact bitsL_mem hg
    · rw [if_neg hz]
      intro l hl
      obtain ⟨q, _, rfl⟩ := List.mem_map.mp hl
      exact turnL_asc
end K02
end
section
set_option Elab.async false
set_option linter.all false
set_option maxRecDepth 100000
set_option maxHeartbeats 4000000
namespace K02
open DV PySem
def lotS (l : List Str) : D := .lst (l.map D.str)
theorem low_lotS {l : List Str} {n t : Nat} : (lotS l).low n t = true := lows_map fun _ _ => rfl
theorem lows_lotS {ls : List (List Str)} {n t : Nat} : D.lows n t (ls.map lotS) = true := lows_map fun _ _ => low_lotS
theorem perm_map {α : Type} {f : α → D} {xs : List α} : ∀ {ys : List D}, ys.Perm (xs.map f) → ∃ zs : List α, ys = zs.map f ∧ zs.Perm xs := by
  intro ys h
  -- every row of images is the image of a row
  have : ∃ zs : List α, zs.map f = ys ∧ zs.Perm xs := by
    generalize hq : xs.map f = q at h
    induction h generalizing xs with
    | nil => exact ⟨[], rfl, by rw [List.map_eq_nil_iff] at hq; rw [hq]⟩
    | cons x _ ih =>
      cases xs with
      | nil => cases hq
      | cons y xs =>
        injection hq with h1 h2
        obtain ⟨zs, h3, h4⟩ := ih h2
        exact ⟨y :: zs, by rw [List.map_cons, h1, h3], h4.cons y⟩
    | swap x y l =>
      match xs, hq with
      | a :: b :: xs, hq =>
        injection hq with h1 h2
        injection h2 with h2 h3
        exact ⟨b :: a :: xs, by rw [List.map_cons, List.map_cons, h1, h2, h3], List.Perm.swap a b xs⟩
    | trans _ _ ih1 ih2 =>
      obtain ⟨zs, h1, h2⟩ := ih2 hq
      obtain ⟨ws, h3, h4⟩ := ih1 h1
      exact ⟨ws, h3, h4.trans h2⟩
  obtain ⟨zs, h1, h2⟩ := this
  exact ⟨zs, h1.symm, h2⟩
/-- what is known of drawn names and lots -/
structure Drawn (n : Nat) (names : List Str) (lots : List (List Str)) : Prop where
  len : names.length = n
  nd : names.Nodup
  good : ∀ x ∈ names, NmL 6 x
  ne : lots ≠ []
  lnd : lots.Nodup
  few : lots.length < 1000
  asc : ∀ l ∈ lots, l.Pairwise ltS
  mem : ∀ l ∈ lots, ∀ x ∈ l, x ∈ names
theorem ltS_irrefl {a : Str} : ¬ ltS a a := List.lt_irrefl _
theorem names_at {own : List Str} {n k : Nat} (h : own.length = n) (hk : k < n) : L2.atI (own.map D.str) (k : Int) = some (.str (own.getD k ⟨#[]⟩)) := by
  rw [atI_nat rfl (by rw [List.length_map, h]; exact hk)]
  simp [List.getD_eq_getElem?_getD, List.getElem?_eq_getElem (show k < own.length by omega)]
theorem drawn_ok {s : S} {i m n : Nat} (sp : Spr s i m) (hm : m < 2 ^ 36) (hn : n ≤ 9) :
    ∃ (names : List Str) (lots : List (List Str)) (s' : S), F__law_b_drawn s [.ref i, natD n] = .ok (.tup [.lst (names.map D.str), .lst (lots.map lotS)]) s' ∧ Drew s i (m + 5000) s' ∧ Drawn n names lots := by
  have hi := spr_lt sp
  obtain ⟨ks, t1, e1, d1, k1, k2, k3⟩ := names_ok sp (many := n) (by omega) hn
  obtain ⟨ls, t2, e2, d2, l1, l2, l3, l4⟩ := shape_ok (n := n) d1.spr (by omega) hn
  have hown : (sortS ks).length = n := by rw [sortS_perm.length_eq, k1]
  have srt : gSorted t1 (.lst (ks.map D.str)) = some ((sortS ks).map D.str) := sorted_strs (by rw [k1, line]; omega)
  have asc := sortS_asc k2
  have memk : ∀ x, x ∈ sortS ks ↔ x ∈ ks := fun x => sortS_perm.mem_iff
  generalize sortS ks = own at *
  have sh : F__law_b_shape t1 [.ref i, .int (n : Int)] = .ok (.lst (ls.map lotD)) t2 := e2
  -- the lots by names
  have comp : aComp (ixSeq (xCall F__law_b_shape (aCons (xVar 0) (aCons (xVar 1) aNil)))) (.one 4) tAll E__law_b_drawn_1 [4] [some (.ref i), some (.int (n : Int)), some (.lst (own.map D.str)), none, none, none] t1 = .ok ((ls.map fun l => l.map fun k => own.getD k ⟨#[]⟩).map lotS) t2 := by
    refine aComp_mapE ls lotD (fun l => l.map fun k => own.getD k ⟨#[]⟩) lotS ?_ (by rw [line]; omega) fun l hl => ⟨_, rfl, ?_⟩
    · simp only [RUN, sh]
    · have hll : l.length ≤ n := by
        have := nodup_le (cs := l) (xs := List.range n) ((l4 l hl).1.imp fun z => Nat.ne_of_lt z) fun k hk => List.mem_range.mpr ((l4 l hl).2 k hk)
        rwa [List.length_range] at this
      have c2 : aComp (ixSeq (xVar 4)) (.one 5) tAll E__law_b_drawn_0 [5] [some (.ref i), some (.int (n : Int)), some (.lst (own.map D.str)), none, some (lotD l), none] t2 = .ok ((l.map fun k => own.getD k ⟨#[]⟩).map D.str) t2 := by
        refine aComp_mapE l natD (fun k => own.getD k ⟨#[]⟩) D.str (natD_lot rfl) (by rw [line]; omega) fun k hk => ⟨_, rfl, ?_⟩
        have a := names_at hown ((l4 l hl).2 k hk)
        simp only [E__law_b_drawn_0, RUN, natD, a]
      show E__law_b_drawn_1 [some (.ref i), some (.int (n : Int)), some (.lst (own.map D.str)), none, some (lotD l), none] t2 = _
      simp only [E__law_b_drawn_1, RUN, c2]
      rfl
  obtain ⟨ys, t3, p3, e3, d3⟩ := mixed_ok (xs := own.map D.str) d2.spr (by rw [List.length_map]; omega) (by rw [List.length_map]; omega) (lows_map fun _ _ => rfl)
  obtain ⟨zs, t4, p4, e4, d4⟩ := mixed_ok (xs := (ls.map fun l => l.map fun k => own.getD k ⟨#[]⟩).map lotS) d3.spr (by rw [List.length_map, List.length_map, List.length_map]; omega) (by rw [List.length_map, List.length_map]; omega) lows_lotS
  obtain ⟨names, rfl, pn⟩ := perm_map p3
  obtain ⟨lots, rfl, pl⟩ := perm_map p4
  have dd := ((d1.trans d2).trans d3).trans d4
  have nd : own.Nodup := List.Pairwise.imp (R := ltS) (S := fun a b => a ≠ b) (fun {a b} h z => by rw [z] at h; exact ltS_irrefl h) asc
  have getm : ∀ k, k < n → own.getD k ⟨#[]⟩ ∈ own := fun k hk => by
    rw [List.getD_eq_getElem?_getD, List.getElem?_eq_getElem (show k < own.length by omega)]
    exact List.getElem_mem _
  have getlt : ∀ j k, j < k → k < n → ltS (own.getD j ⟨#[]⟩) (own.getD k ⟨#[]⟩) := fun j k hjk hk => by
    rw [List.getD_eq_getElem?_getD, List.getD_eq_getElem?_getD, List.getElem?_eq_getElem (show j < own.length by omega), List.getElem?_eq_getElem (show k < own.length by omega)]
    exact List.pairwise_iff_getElem.mp asc j k (by omega) (by omega) hjk
  refine ⟨names, lots, t4, ?_, dd.le (by rw [List.length_map, List.length_map, List.length_map]; omega), ?_⟩
  · have start : F__law_b_drawn s [.ref i, natD n] = endDef s (m__law_b_drawn [some (.ref i), some (.int (n : Int)), none, none, none, none] s) := run_def rfl
    have l2 : ∀ a b : D, decide ([a, b].length ≤ sizeLine) = true := fun _ _ => rfl
    obtain ⟨o, rfl, _⟩ := dd
    rw [start]
    unfold m__law_b_drawn
    simp only [RUN, e1, srt, comp, e3, e4, l2]
    rw [fin_tup (by
      show (D.lows _ _ (names.map D.str) && (D.lows _ _ (lots.map lotS) && true)) = true
      rw [lows_map fun _ _ => rfl, lows_lotS]
      rfl), back_put]
  · refine ⟨by rw [pn.length_eq, hown], pn.nodup_iff.mpr nd, fun x hx => k3 x ((memk x).mp (pn.mem_iff.mp hx)), fun z => ?_, ?_, by rw [pl.length_eq, List.length_map]; exact l3, fun l hl => ?_, fun l hl x hx => ?_⟩
    · rw [z] at pl
      have := pl.length_eq
      rw [List.length_map] at this
      exact l1 (List.length_eq_zero_iff.mp this.symm)
    · refine pl.nodup_iff.mpr (List.pairwise_map.mpr (l2.imp_of_mem fun {a b} ha hb ne z => ne ?_))
      refine asc_ext (l4 a ha).1 (l4 b hb).1 fun k => ?_
      have inj : ∀ {a b : List Nat}, (∀ k ∈ a, k < n) → (∀ k ∈ b, k < n) → (a.map fun k => own.getD k ⟨#[]⟩) = (b.map fun k => own.getD k ⟨#[]⟩) → k ∈ a → k ∈ b := fun {a b} ha hb z hk => by
        have h1 : own.getD k ⟨#[]⟩ ∈ b.map fun k => own.getD k ⟨#[]⟩ := by rw [← z]; exact List.mem_map.mpr ⟨k, hk, rfl⟩
        obtain ⟨j, hj, e⟩ := List.mem_map.mp h1
        have hk2 := ha k hk
        have hj2 := hb j hj
        rcases Nat.lt_trichotomy j k with w | w | w
        · have := getlt j k w hk2
          rw [e] at this
          exact absurd this ltS_irrefl
        · rw [← w]
          exact hj
        · have := getlt k j w hj2
          rw [e] at this
          exact absurd this ltS_irrefl
      exact ⟨inj (l4 a ha).2 (l4 b hb).2 z, inj (l4 b hb).2 (l4 a ha).2 z.symm⟩
    · obtain ⟨q, hq, rfl⟩ := List.mem_map.mp (pl.mem_iff.mp hl)
      refine List.pairwise_map.mpr ((l4 q hq).1.imp_of_mem fun {a b} ha hb h => getlt a b h ((l4 q hq).2 b hb))
    · obtain ⟨q, hq, rfl⟩ := List.mem_map.mp (pl.mem_iff.mp hl)
      obtain ⟨k, hk, rfl⟩ := List.mem_map.mp hx
      exact pn.mem_iff.mpr (getm k ((l4 q hq).2 k hk))
/-- a lot by chance -/
theorem some_ok {s : S} {i m : Nat} {names : List Str} (sp : Spr s i m) (hm : m < 2 ^ 36) (hn : names.length ≤ 9) :
    ∃ (l : List Str) (s' : S), F__law_b_some s [.ref i, .lst (names.map D.str)] = .ok (lotS l) s' ∧ Drew s i (m + 10) s' ∧ ∃ l0, l0.Sublist names ∧ l = sortS l0 := by
  obtain ⟨acc, t', run, b, a, h1, h2, ⟨l1, h3, h4⟩, h5⟩ := comp_inv (c := .one 2) (t := T__law_b_some_0) (f := E__law_b_some_1) (vs := [2]) (w := ⟨names.map D.str, []⟩) (e := [some (.ref i), some (.lst (names.map D.str)), none])
    (fun ds acc t' => ∃ (b a : List Str), ds = b.map D.str ∧ acc = a.map D.str ∧ (∃ l1, names = l1 ++ b ∧ a.Sublist l1) ∧ Drew s i (m + (9 - b.length)) t') (fun _ _ _ _ => same_nil) (fun d ds acc t1 ⟨b, a, h1, h2, ⟨l1, h3, h4⟩, h5⟩ => by
      cases b with
      | nil => cases h1
      | cons l b =>
        injection h1 with h6 h7
        subst h6 h7 h2
        have hl : names.length = l1.length + (b.length + 1) := by rw [h3, List.length_append]; rfl
        have hal : a.length ≤ l1.length := h4.length_le
        obtain ⟨q, t3, e3, _, _, d3⟩ := draw_ok (n := 2) h5.spr (by rw [List.length_cons]; omega) (by decide) (by decide)
        have dr : Drew s i (m + (9 - b.length)) t3 := (h5.trans d3).le (by rw [List.length_cons]; omega)
        refine ⟨_, rfl, decide (0 < q), t3, ?_, fun _ => ⟨.str l, t3, ?_, ?_, b, a ++ [l], rfl, by simp, ⟨l1 ++ [l], by simp [h3], h4.append (.refl _)⟩, dr⟩, fun _ => ⟨b, a, rfl, rfl, ⟨l1 ++ [l], by simp [h3], h4.trans (List.sublist_append_left _ _)⟩, dr⟩⟩
        · show T__law_b_some_0 [some (.ref i), some (.lst (names.map D.str)), some (.str l)] t1 = _
          simp only [T__law_b_some_0, RUN, e3]
        · show E__law_b_some_1 [some (.ref i), some (.lst (names.map D.str)), some (.str l)] t3 = _
          simp only [E__law_b_some_1, RUN]
        · rw [List.length_map, line]
          omega) (names.map D.str) [] s ⟨names, [], rfl, rfl, ⟨[], rfl, .refl _⟩, .refl (spr_le sp (by omega))⟩
  have hb0 : b = [] := by
    cases b with
    | nil => rfl
    | cons _ _ => cases h1
  subst hb0 h2
  rw [List.append_nil] at h3
  subst h3
  have hl := h4.length_le
  have srt : gSorted t' (.lst (a.map D.str)) = some ((sortS a).map D.str) := sorted_strs (by rw [line]; omega)
  refine ⟨sortS a, t', ?_, h5.le (by simp), a, h4, rfl⟩
  have start : F__law_b_some s [.ref i, .lst (names.map D.str)] = endDef s (m__law_b_some [some (.ref i), some (.lst (names.map D.str)), none] s) := run_def rfl
  obtain ⟨o, rfl, _⟩ := h5
  rw [start]
  unfold m__law_b_some
  simp only [RUN, r_comp, run, srt]
  rw [fin_lst (lows_map fun _ _ => rfl), back_put]
  rfl
end K02
end
section
set_option Elab.async false
set_option linter.all false
set_option maxRecDepth 100000
set_option maxHeartbeats 2000000
/-! PI: how many unlike keys a dict of given things has. -/
namespace DV
open PySem PySem.Spec PyProof.Rows
instance keyDec (q : L2.Key) (ks : List L2.Key) : Decidable (q ∈ ks) := @List.instDecidableMemOfLawfulBEq L2.Key instBEqOfDecidableEq inferInstance q ks
instance keysDec (q : List L2.Key) (ks : List (List L2.Key)) : Decidable (q ∈ ks) := @List.instDecidableMemOfLawfulBEq (List L2.Key) instBEqOfDecidableEq inferInstance q ks
def addK {κ : Type} [DecidableEq κ] (acc : List κ) (q : κ) : List κ := if q ∈ acc then acc else acc ++ [q]
def keysOf {κ : Type} [DecidableEq κ] (qs : List κ) : List κ := qs.foldl addK []
theorem keys_nodup {κ : Type} [DecidableEq κ] : ∀ (qs acc : List κ), (acc ++ qs).Nodup → qs.foldl addK acc = acc ++ qs
  | [], acc, _ => by simp
  | q :: qs, acc, h => by
    rw [List.foldl_cons]
    have h1 : q ∉ acc := fun z => by
      rw [List.nodup_append] at h
      exact h.2.2 q z q List.mem_cons_self rfl
    rw [show addK acc q = acc ++ [q] from if_neg h1, keys_nodup qs (acc ++ [q]) (by simpa using h)]
    simp
theorem keys_le {κ : Type} [DecidableEq κ] : ∀ (qs acc : List κ), (qs.foldl addK acc).length ≤ acc.length + qs.length
  | [], acc => by simp
  | q :: qs, acc => by
    rw [List.foldl_cons]
    have := keys_le qs (addK acc q)
    have h : (addK acc q).length ≤ acc.length + 1 := by
      unfold addK
      split <;> simp
    rw [List.length_cons]
    omega
/-! ### keys that are texts or numbers -/
theorem look_key {ks : List L2.Key} : ∀ {vs : List D} {q : L2.Key}, vs.length = ks.length → (look1 (ks.map keyD) vs q).isSome = decide (q ∈ ks) := by
  induction ks with
  | nil =>
    intro vs q h
    cases vs with
    | nil => rfl
    | cons _ _ => cases h
  | cons k ks ih =>
    intro vs q h
    cases vs with
    | nil => cases h
    | cons v vs =>
      have h : vs.length + 1 = ks.length + 1 := h
      show (if kD (keyD k) = some q then some v else look1 (ks.map keyD) vs q).isSome = _
      rw [kD_keyD]
      by_cases e : k = q
      · subst e
        rw [if_pos rfl]
        simp
      · rw [if_neg (by intro z; exact e (Option.some.inj z)), ih (by omega)]
        simp [Ne.symm e]
theorem rep1_len {q : L2.Key} {v : D} : ∀ {ks vs : List D}, vs.length = ks.length → (rep1 ks vs q v).length = ks.length
  | [], [], _ => rfl
  | [], _ :: _, h => by cases h
  | _ :: _, [], h => by cases h
  | k :: ks, w :: vs, h => by
    show (rep1 ks vs q v).length + 1 = ks.length + 1
    rw [rep1_len (by simpa using h)]
theorem put_key {ks : List L2.Key} {vs : List D} {q : L2.Key} {v : D} (h : vs.length = ks.length) : (putKD (ks.map keyD) vs q v).1 = (addK ks q).map keyD ∧ (putKD (ks.map keyD) vs q v).2.length = (addK ks q).length := by
  unfold putKD addK
  rw [look_key h]
  by_cases e : q ∈ ks
  · rw [if_pos (by simpa using e), if_pos e]
    exact ⟨rfl, by show (rep1 _ _ _ _).length = _; rw [rep1_len (by rw [List.length_map]; exact h), List.length_map]⟩
  · rw [if_neg (by simpa using e), if_neg e]
    exact ⟨by simp, by simp [h]⟩
theorem fold_key : ∀ (ps : List (L2.Key × D)) (ks : List L2.Key) (vs : List D), vs.length = ks.length → ∃ ws, foldK ps (ks.map keyD) vs = (((ps.map (·.1)).foldl addK ks).map keyD, ws) ∧ ws.length = ((ps.map (·.1)).foldl addK ks).length
  | [], ks, vs, h => ⟨vs, rfl, h⟩
  | p :: ps, ks, vs, h => by
    obtain ⟨h1, h2⟩ := put_key (q := p.1) (v := p.2) h
    obtain ⟨ws, h3, h4⟩ := fold_key ps (addK ks p.1) (putKD (ks.map keyD) vs p.1 p.2).2 h2
    refine ⟨ws, ?_, h4⟩
    show foldK ps (putKD (ks.map keyD) vs p.1 p.2).1 (putKD (ks.map keyD) vs p.1 p.2).2 = _
    rw [h1, h3]
    rfl
theorem dc_key {α : Type} {c : CT} {fk fv : Ex} {vs : List Nat} {w : Wk} {e : Env} {s : S} (en : α → D) (key : α → L2.Key) (hw : w.src = []) : ∀ (xs : List α) (ks : List L2.Key) (va : List D), va.length = ks.length → ks.length + xs.length ≤ PySem.sizeLine →
    (∀ x ∈ xs, ∃ e1 y v, c.bind (en x) (wipeE e vs) s = some e1 ∧ fk e1 s = .ok y s ∧ kD y = some (key x) ∧ fv e1 s = .ok v s) → ∃ ws, dcRunK c tAll fk fv vs w e (xs.map en) (ks.map keyD) va s = .ok (((xs.map key).foldl addK ks).map keyD, ws) s
  | [], ks, va, h, _, _ => by
    have sm : w.same s := fun p hp => by rw [hw] at hp; cases hp
    refine ⟨va, ?_⟩
    unfold dcRunK
    rw [List.map_nil]
    show (if w.same s then Out.ok (ks.map keyD, va) s else .stuck) = _
    rw [if_pos sm]
    rfl
  | x :: xs, ks, va, h, hl, st => by
    have hl : ks.length + (xs.length + 1) ≤ PySem.sizeLine := hl
    have sm : w.same s := fun p hp => by rw [hw] at hp; cases hp
    obtain ⟨e1, y, v, h1, h2, h3, h4⟩ := st x List.mem_cons_self
    obtain ⟨h5, h6⟩ := put_key (q := key x) (v := v) h
    have hk : (addK ks (key x)).length ≤ ks.length + 1 := by
      unfold addK
      split <;> simp
    obtain ⟨ws, h7⟩ := dc_key (c := c) (fk := fk) (fv := fv) (vs := vs) (w := w) (e := e) en key hw xs (addK ks (key x)) (putKD (ks.map keyD) va (key x) v).2 h6 (by omega) fun z hz => st z (List.mem_cons_of_mem _ hz)
    refine ⟨ws, ?_⟩
    rw [List.map_cons]
    unfold dcRunK
    rw [if_pos sm, h1]
    show (tAll e1 s).bind _ = _
    rw [r_all, bind_ok, if_pos rfl, h2, bind_ok, h4, bind_ok, h3]
    show (if (ks.map keyD).length < PySem.sizeLine then _ else _) = _
    rw [if_pos (by rw [List.length_map]; omega), h5, h7]
    rfl
theorem xDcK_keys {α : Type} {ix : Ix} {c : CT} {fk fv : Ex} {vs : List Nat} {e : Env} {s : S} (xs : List α) (en : α → D) (key : α → L2.Key) (hix : ix e s = .ok ⟨xs.map en, []⟩ s) (hl : xs.length ≤ PySem.sizeLine)
    (st : ∀ x ∈ xs, ∃ e1 y v, c.bind (en x) (wipeE e vs) s = some e1 ∧ fk e1 s = .ok y s ∧ kD y = some (key x) ∧ fv e1 s = .ok v s) : ∃ ws, xDcK ix c tAll fk fv vs e s = .ok (.dct ((keysOf (xs.map key)).map keyD) ws) s := by
  obtain ⟨ws, h⟩ := dc_key (c := c) (fk := fk) (fv := fv) (vs := vs) (w := ⟨xs.map en, []⟩) (e := e) (s := s) en key rfl xs [] [] rfl (by simpa using hl) st
  refine ⟨ws, ?_⟩
  show (ix e s).bind _ = _
  rw [hix, bind_ok]
  show OutK (dcRunK c tAll fk fv vs ⟨xs.map en, []⟩ e (xs.map en) [] [] s) = _
  rw [show dcRunK c tAll fk fv vs ⟨xs.map en, []⟩ e (xs.map en) [] [] s = _ from h]
  rfl
theorem pairs_key {α : Type} (kf vf : α → D) (key : α → L2.Key) : ∀ xs : List α, (∀ x ∈ xs, kD (kf x) = some (key x)) → pairsK (xs.map fun x => D.tup [kf x, vf x]) = some (xs.map fun x => (key x, vf x))
  | [], _ => rfl
  | x :: xs, h => by
    have ih := pairs_key kf vf key xs fun y hy => h y (List.mem_cons_of_mem _ hy)
    show (match (D.tup [kf x, vf x]).strip, pairsK (xs.map fun x => D.tup [kf x, vf x]) with
      | .tup [k, v], some r => (kD k).map fun q => (q, v) :: r
      | _, _ => none) = _
    rw [ih]
    show (kD (kf x)).map _ = _
    rw [h x List.mem_cons_self]
    rfl
theorem dict_keys {α : Type} {s : S} (kf vf : α → D) (key : α → L2.Key) (xs : List α) (h : ∀ x ∈ xs, kD (kf x) = some (key x)) : ∃ ws, gDict s (.lst (xs.map fun x => D.tup [kf x, vf x])) = some (.dct ((keysOf (xs.map key)).map keyD) ws) := by
  obtain ⟨ws, h1, _⟩ := fold_key (xs.map fun x => (key x, vf x)) [] [] rfl
  refine ⟨ws, ?_⟩
  show (match pairsK (xs.map fun x => D.tup [kf x, vf x]) with
    | some ps => some (D.dct (foldK ps [] []).1 (foldK ps [] []).2)
    | none => _) = _
  rw [pairs_key kf vf key xs h]
  show some (D.dct (foldK (xs.map fun x => (key x, vf x)) [] []).1 (foldK (xs.map fun x => (key x, vf x)) [] []).2) = _
  rw [show foldK (xs.map fun x => (key x, vf x)) [] [] = _ from h1]
  show some (D.dct ((((xs.map fun x => (key x, vf x)).map (·.1)).foldl addK []).map keyD) ws) = _
  rw [List.map_map]
  rfl
/-! ### keys that are tuples of these -/
abbrev keyT (q : List L2.Key) : D := .tup (q.map keyD)
theorem look_keyT {ks : List (List L2.Key)} : ∀ {vs : List D} {q : List L2.Key}, vs.length = ks.length → (lookT (ks.map keyT) vs q).isSome = decide (q ∈ ks) := by
  induction ks with
  | nil =>
    intro vs q h
    cases vs with
    | nil => rfl
    | cons _ _ => cases h
  | cons k ks ih =>
    intro vs q h
    cases vs with
    | nil => cases h
    | cons v vs =>
      have h : vs.length + 1 = ks.length + 1 := h
      show (if kTD (keyT k) = some q then some v else lookT (ks.map keyT) vs q).isSome = _
      rw [kTD_map]
      by_cases e : k = q
      · subst e
        rw [if_pos rfl]
        simp
      · rw [if_neg (by intro z; exact e (Option.some.inj z)), ih (by omega)]
        simp [Ne.symm e]
theorem put_keyT {ks : List (List L2.Key)} {vs : List D} {q : List L2.Key} {v : D} (h : vs.length = ks.length) : (putTD (ks.map keyT) vs q v).1 = (addK ks q).map keyT ∧ (putTD (ks.map keyT) vs q v).2.length = (addK ks q).length := by
  unfold putTD addK
  rw [look_keyT h]
  by_cases e : q ∈ ks
  · rw [if_pos (by simpa using e), if_pos e]
    exact ⟨rfl, by show (repT _ _ _ _).length = _; rw [repT_len (by rw [List.length_map]; exact h), List.length_map]⟩
  · rw [if_neg (by simpa using e), if_neg e]
    exact ⟨by simp, by simp [h]⟩
theorem fold_keyT : ∀ (ps : List (List L2.Key × D)) (ks : List (List L2.Key)) (vs : List D), vs.length = ks.length → ∃ ws, foldT ps (ks.map keyT) vs = (((ps.map (·.1)).foldl addK ks).map keyT, ws) ∧ ws.length = ((ps.map (·.1)).foldl addK ks).length
  | [], ks, vs, h => ⟨vs, rfl, h⟩
  | p :: ps, ks, vs, h => by
    obtain ⟨h1, h2⟩ := put_keyT (q := p.1) (v := p.2) h
    obtain ⟨ws, h3, h4⟩ := fold_keyT ps (addK ks p.1) (putTD (ks.map keyT) vs p.1 p.2).2 h2
    refine ⟨ws, ?_, h4⟩
    show foldT ps (putTD (ks.map keyT) vs p.1 p.2).1 (putTD (ks.map keyT) vs p.1 p.2).2 = _
    rw [h1, h3]
    rfl
theorem keys_ne {κ : Type} [DecidableEq κ] : ∀ (qs acc : List κ), acc ≠ [] → qs.foldl addK acc ≠ []
  | [], acc, h => h
  | q :: qs, acc, h => by
    rw [List.foldl_cons]
    refine keys_ne qs _ ?_
    unfold addK
    split
    · exact h
    · simp
theorem keysOf_ne {κ : Type} [DecidableEq κ] {qs : List κ} (h : qs ≠ []) : keysOf qs ≠ [] := by
  cases qs with
  | nil => exact absurd rfl h
  | cons q qs => exact keys_ne qs [q] (by simp)
theorem dc_keyT {α : Type} {c : CT} {fk fv : Ex} {vs : List Nat} {w : Wk} {e : Env} {s : S} (en : α → D) (key : α → List L2.Key) (hw : w.src = []) : ∀ (xs : List α) (ks : List (List L2.Key)) (va : List D), va.length = ks.length → ks.length + xs.length ≤ PySem.sizeLine →
    (∀ x ∈ xs, ∃ e1 y v, c.bind (en x) (wipeE e vs) s = some e1 ∧ fk e1 s = .ok y s ∧ kTD y = some (key x) ∧ fv e1 s = .ok v s) → ∃ ws, dcRunT c tAll fk fv vs w e (xs.map en) (ks.map keyT) va s = .ok (((xs.map key).foldl addK ks).map keyT, ws) s
  | [], ks, va, h, _, _ => by
    have sm : w.same s := fun p hp => by rw [hw] at hp; cases hp
    refine ⟨va, ?_⟩
    unfold dcRunT
    rw [List.map_nil]
    show (if w.same s then Out.ok (ks.map keyT, va) s else .stuck) = _
    rw [if_pos sm]
    rfl
  | x :: xs, ks, va, h, hl, st => by
    have hl : ks.length + (xs.length + 1) ≤ PySem.sizeLine := hl
    have sm : w.same s := fun p hp => by rw [hw] at hp; cases hp
    obtain ⟨e1, y, v, h1, h2, h3, h4⟩ := st x List.mem_cons_self
    obtain ⟨h5, h6⟩ := put_keyT (q := key x) (v := v) h
    have hk : (addK ks (key x)).length ≤ ks.length + 1 := by
      unfold addK
      split <;> simp
    obtain ⟨ws, h7⟩ := dc_keyT (c := c) (fk := fk) (fv := fv) (vs := vs) (w := w) (e := e) en key hw xs (addK ks (key x)) (putTD (ks.map keyT) va (key x) v).2 h6 (by omega) fun z hz => st z (List.mem_cons_of_mem _ hz)
    refine ⟨ws, ?_⟩
    rw [List.map_cons]
    unfold dcRunT
    rw [if_pos sm, h1]
    show (tAll e1 s).bind _ = _
    rw [r_all, bind_ok, if_pos rfl, h2, bind_ok, h4, bind_ok, h3]
    show (if (ks.map keyT).length < PySem.sizeLine then _ else _) = _
    rw [if_pos (by rw [List.length_map]; omega), h5, h7]
    rfl
theorem xDcT_keys {α : Type} {ix : Ix} {c : CT} {fk fv : Ex} {vs : List Nat} {e : Env} {s : S} (xs : List α) (en : α → D) (key : α → List L2.Key) (hix : ix e s = .ok ⟨xs.map en, []⟩ s) (hl : xs.length ≤ PySem.sizeLine) (hne : xs ≠ [])
    (st : ∀ x ∈ xs, ∃ e1 y v, c.bind (en x) (wipeE e vs) s = some e1 ∧ fk e1 s = .ok y s ∧ kTD y = some (key x) ∧ fv e1 s = .ok v s) : ∃ ws, xDcT ix c tAll fk fv vs e s = .ok (.dct ((keysOf (xs.map key)).map keyT) ws) s := by
  obtain ⟨ws, h⟩ := dc_keyT (c := c) (fk := fk) (fv := fv) (vs := vs) (w := ⟨xs.map en, []⟩) (e := e) (s := s) en key rfl xs [] [] rfl (by simpa using hl) st
  refine ⟨ws, ?_⟩
  show (ix e s).bind _ = _
  rw [hix, bind_ok]
  show OutT (dcRunT c tAll fk fv vs ⟨xs.map en, []⟩ e (xs.map en) [] [] s) = _
  rw [show dcRunT c tAll fk fv vs ⟨xs.map en, []⟩ e (xs.map en) [] [] s = _ from h]
  have hn := keysOf_ne (qs := xs.map key) (by simpa using hne)
  show (if ((keysOf (xs.map key)).map keyT).isEmpty = true then Out.stuck else _) = _
  rw [if_neg (by
    intro z
    rw [List.isEmpty_iff, List.map_eq_nil_iff] at z
    exact hn z)]
  rfl
theorem pairs_none {α : Type} (kf vf : α → D) : ∀ xs : List α, xs ≠ [] → (∀ x ∈ xs, kD (kf x) = none) → pairsK (xs.map fun x => D.tup [kf x, vf x]) = none
  | [], h, _ => absurd rfl h
  | x :: xs, _, h => by
    show (match (D.tup [kf x, vf x]).strip, pairsK (xs.map fun x => D.tup [kf x, vf x]) with
      | .tup [k, v], some r => (kD k).map fun q => (q, v) :: r
      | _, _ => none) = _
    cases pairsK (xs.map fun x => D.tup [kf x, vf x]) with
    | none => rfl
    | some r =>
      show (kD (kf x)).map _ = _
      rw [h x List.mem_cons_self]
      rfl
theorem pairs_keyT {α : Type} (kf vf : α → D) (key : α → List L2.Key) : ∀ xs : List α, (∀ x ∈ xs, kTD (kf x) = some (key x)) → pairsT (xs.map fun x => D.tup [kf x, vf x]) = some (xs.map fun x => (key x, vf x))
  | [], _ => rfl
  | x :: xs, h => by
    have ih := pairs_keyT kf vf key xs fun y hy => h y (List.mem_cons_of_mem _ hy)
    show (match (D.tup [kf x, vf x]).strip, pairsT (xs.map fun x => D.tup [kf x, vf x]) with
      | .tup [k, v], some r => (kTD k).map fun q => (q, v) :: r
      | _, _ => none) = _
    rw [ih]
    show (kTD (kf x)).map _ = _
    rw [h x List.mem_cons_self]
    rfl
theorem dict_keysT {α : Type} {s : S} (kf vf : α → D) (key : α → List L2.Key) (xs : List α) (hne : xs ≠ []) (hk : ∀ x ∈ xs, kD (kf x) = none) (h : ∀ x ∈ xs, kTD (kf x) = some (key x)) : ∃ ws, gDict s (.lst (xs.map fun x => D.tup [kf x, vf x])) = some (.dct ((keysOf (xs.map key)).map keyT) ws) := by
  obtain ⟨ws, h1, _⟩ := fold_keyT (xs.map fun x => (key x, vf x)) [] [] rfl
  refine ⟨ws, ?_⟩
  have hn := keysOf_ne (qs := xs.map key) (by simpa using hne)
  show (match pairsK (xs.map fun x => D.tup [kf x, vf x]) with
    | some ps => some (D.dct (foldK ps [] []).1 (foldK ps [] []).2)
    | none => match pairsT (xs.map fun x => D.tup [kf x, vf x]) with
      | some ps => if (foldT ps [] []).1.isEmpty = true then none else some (D.dct (foldT ps [] []).1 (foldT ps [] []).2)
      | none => none) = _
  rw [pairs_none kf vf xs hne hk, pairs_keyT kf vf key xs h]
  have h1 : foldT (xs.map fun x => (key x, vf x)) [] [] = ((keysOf (xs.map key)).map keyT, ws) := by
    have h1 : foldT (xs.map fun x => (key x, vf x)) [] [] = ((((xs.map fun x => (key x, vf x)).map (·.1)).foldl addK []).map keyT, ws) := h1
    rw [h1, List.map_map]
    rfl
  show (if (foldT (xs.map fun x => (key x, vf x)) [] []).1.isEmpty = true then none else some (D.dct (foldT (xs.map fun x => (key x, vf x)) [] []).1 (foldT (xs.map fun x => (key x, vf x)) [] []).2)) = _
  rw [h1]
  exact if_neg (by
    intro z
    rw [List.isEmpty_iff, List.map_eq_nil_iff] at z
    exact hn z)
end DV
end
section
set_option Elab.async false
set_option linter.all false
set_option maxRecDepth 100000
set_option maxHeartbeats 2000000
/-! PJ: told values of any kind. -/
namespace DV
open PySem PySem.Spec PyProof.Rows
mutual
/-- plain and not great; no tag within -/
def D.val : D → Bool
  | .non => true
  | .bl _ => true
  | .int _ => true
  | .str x => decide (x.length ≤ 1000000)
  | .lst xs => decide (xs.length ≤ 1000000) && D.vals xs
  | .tup xs => decide (xs.length ≤ 1000000) && D.vals xs
  | .dct ks vs => decide (ks.length ≤ 1000000)
  | _ => false
def D.vals : List D → Bool
  | [] => true
  | d :: ds => d.val && D.vals ds
end
theorem vals_all : ∀ {xs : List D}, D.vals xs = true ↔ ∀ x ∈ xs, x.val = true
  | [] => ⟨fun _ x hx => (by cases hx), fun _ => rfl⟩
  | x :: xs => by
    show (x.val && D.vals xs) = true ↔ _
    rw [Bool.and_eq_true, vals_all]
    simp
theorem val_strip {d : D} (h : d.val = true) : d.strip = d := by cases d <;> first | rfl | cases h
theorem view_val {s : S} {d v : D} (h : d.strip = v) (hv : v.val = true) : view s d = v := by
  unfold view
  rw [h]
  cases v <;> first | rfl | cases hv
def tyn (v : D) : String := (tyD v).getD ""
theorem isi_val {s : S} {d v : D} {tb : String → Bool} {cb : Nat → Option Bool} (h : d.strip = v) (hv : v.val = true) : gIsi tb cb s d = some (.bl (tb (tyn v))) := by
  unfold gIsi
  rw [view_val h hv]
  cases v <;> first | rfl | cases hv
/-- the items of a list, a tuple -/
def seqOf : D → Option (List D)
  | .lst xs => some xs
  | .tup xs => some xs
  | _ => none
theorem seqOf_val {v : D} {xs : List D} (hv : v.val = true) (h : seqOf v = some xs) : xs.length ≤ 1000000 ∧ ∀ x ∈ xs, x.val = true := by
  cases v with
  | lst ys =>
    cases h
    have hv := Bool.and_eq_true_iff.mp (show (decide (xs.length ≤ 1000000) && D.vals xs) = true from hv)
    exact ⟨of_decide_eq_true hv.1, vals_all.mp hv.2⟩
  | tup ys =>
    cases h
    have hv := Bool.and_eq_true_iff.mp (show (decide (xs.length ≤ 1000000) && D.vals xs) = true from hv)
    exact ⟨of_decide_eq_true hv.1, vals_all.mp hv.2⟩
  | _ => cases h
theorem seq_isi {v : D} (hv : v.val = true) : tbOf ["list", "tuple"] (tyn v) = (seqOf v).isSome := by cases v <;> first | rfl | cases hv
theorem str_isi {v : D} (hv : v.val = true) : tbOf ["str"] (tyn v) = (match v with | .str _ => true | _ => false) := by cases v <;> first | rfl | cases hv
theorem seq_ix {s : S} {e : Env} {j : Nat} {d v : D} {xs : List D} (h : d.strip = v) (hs : seqOf v = some xs) (he : e[j]? = some (some d)) : ixSeq (xVar j) e s = .ok ⟨xs, []⟩ s := by
  rw [r_seqIx, r_var, he]
  show (match view s d with
    | .lst xs => Out.ok (wkD d xs) s
    | .tup xs => .ok ⟨xs, []⟩ s
    | .kl xs => .ok ⟨xs, []⟩ s
    | .scr ns => .ok ⟨ns.map .int, []⟩ s
    | .str z => .ok ⟨signsD z, []⟩ s
    | _ => .stuck) = _
  cases v with
  | lst ys =>
    cases hs
    have e1 : view s d = .lst xs := by
      unfold view
      rw [h]
    rw [e1]
    show Out.ok (⟨xs, srcD d xs⟩ : Wk) s = _
    unfold srcD
    rw [h]
  | tup ys =>
    cases hs
    have e1 : view s d = .tup xs := by
      unfold view
      rw [h]
    rw [e1]
  | _ => cases hs
theorem seq_len {s : S} {d v : D} {xs : List D} (h : d.strip = v) (hs : seqOf v = some xs) : gLen s d = some (.int xs.length) := by
  have e1 : view s d = v := by
    unfold view
    rw [h]
    cases v <;> first | rfl | cases hs
  unfold gLen
  rw [e1]
  cases v <;> first | (cases hs; rfl) | cases hs
theorem seq_tup {s : S} {d v : D} {xs : List D} (h : d.strip = v) (hs : seqOf v = some xs) : gTuple s d = some (.tup xs) := by
  have e1 : view s d = v := by
    unfold view
    rw [h]
    cases v <;> first | rfl | cases hs
  unfold gTuple
  rw [e1]
  cases v <;> first | (cases hs; rfl) | cases hs
theorem seq_list {s : S} {d v : D} {xs : List D} (h : d.strip = v) (hs : seqOf v = some xs) : gList s d = some xs := by
  have e1 : view s d = v := by
    unfold view
    rw [h]
    cases v <;> first | rfl | cases hs
  have e2 : dctD s d = none := by
    unfold dctD
    rw [h]
    cases v <;> first | rfl | cases hs
  unfold gList
  rw [e2]
  show (match view s d with | .str z => _ | v => seqD v) = _
  rw [e1]
  cases v <;> first | (cases hs; rfl) | cases hs
theorem seq_ixI {s : S} {d v : D} {xs : List D} {k : Int} (h : d.strip = v) (hs : seqOf v = some xs) : gIx s d (.int k) = L2.atI xs k := by
  have e1 : view s d = v := by
    unfold view
    rw [h]
    cases v <;> first | rfl | cases hs
  have e2 : dctD s d = none := by
    unfold dctD
    rw [h]
    cases v <;> first | rfl | cases hs
  unfold gIx
  rw [e2]
  show ixD (view s d) k = _
  rw [e1]
  cases v <;> first | (cases hs; rfl) | cases hs
theorem str_len {s : S} {d : D} {z : Str} (h : d.strip = .str z) (hz : z.length ≤ sizeLine) : gLen s d = some (.int z.length) := by
  unfold gLen
  rw [show view s d = .str z from by unfold view; rw [h]]
  exact if_pos hz
theorem str_ix {s : S} {d : D} {z : Str} {c : Nat} {r : List Nat} (h : d.strip = .str z) (hz : z.length ≤ sizeLine) (e : z.cps.toList = c :: r) : gIx s d (.int 0) = some (.str ⟨#[c]⟩) := by
  have e2 : dctD s d = none := by
    unfold dctD
    rw [h]
  unfold gIx
  rw [e2]
  show ixD (view s d) 0 = _
  rw [show view s d = .str z from by unfold view; rw [h]]
  show (if z.length ≤ sizeLine then (L2.atI z.cps.toList 0).map (fun c => D.str ⟨#[c]⟩) else none) = _
  rw [if_pos hz, e, show L2.atI (c :: r) 0 = some c from atI_nat (n := 0) (k := 0) rfl (by simp)]
  rfl
theorem str_seq {s : S} {e : Env} {j : Nat} {d : D} {z : Str} (h : d.strip = .str z) (he : e[j]? = some (some d)) : ixSeq (xVar j) e s = .ok ⟨z.cps.toList.map fun c => D.str ⟨#[c]⟩, []⟩ s := by
  rw [r_seqIx, r_var, he]
  show (match view s d with
    | .lst xs => Out.ok (wkD d xs) s
    | .tup xs => .ok ⟨xs, []⟩ s
    | .kl xs => .ok ⟨xs, []⟩ s
    | .scr ns => .ok ⟨ns.map .int, []⟩ s
    | .str z => .ok ⟨signsD z, []⟩ s
    | _ => .stuck) = _
  rw [show view s d = .str z from by unfold view; rw [h]]
  rfl
theorem in_sign {s : S} {c : Nat} {z : Str} : gIn s (.str ⟨#[c]⟩) (.str z) = some (.bl (decide (c ∈ z.cps.toList))) := rfl
theorem notIn_sign {s : S} {c : Nat} {z : Str} : gNotIn s (.str ⟨#[c]⟩) (.str z) = some (.bl (!decide (c ∈ z.cps.toList))) := rfl
theorem all_bl {α : Type} {s : S} {xs : List α} {g : α → Bool} : gAll s (.lst ((xs.map g).map D.bl)) = some (.bl (xs.all g)) := by
  rw [List.map_map]
  exact all_map (q := g)
/-! ### rows of ascending texts -/
def strOf : D → Str
  | .str z => z
  | _ => ⟨#[]⟩
def ascB : List Str → Bool
  | a :: b :: r => decide (a.cps.toList < b.cps.toList) && ascB (b :: r)
  | _ => true
theorem asc_zip : ∀ zs : List Str, (zs.zip zs.tail).all (fun p => decide (p.1.cps.toList < p.2.cps.toList)) = ascB zs
  | [] => rfl
  | [_] => rfl
  | a :: b :: r => by
    show (decide (a.cps.toList < b.cps.toList) && ((b :: r).zip r).all _) = _
    rw [show ((b :: r).zip r).all (fun p => decide (p.1.cps.toList < p.2.cps.toList)) = ascB (b :: r) from asc_zip (b :: r)]
    rfl
theorem asc_range : ∀ zs : List Str, (List.range (zs.length - 1)).all (fun i => decide ((zs.getD i ⟨#[]⟩).cps.toList < (zs.getD (i + 1) ⟨#[]⟩).cps.toList)) = ascB zs
  | [] => rfl
  | [_] => rfl
  | a :: b :: r => by
    have ih := asc_range (b :: r)
    have e : (a :: b :: r).length - 1 = ((b :: r).length - 1) + 1 := by simp
    rw [e, List.range_succ_eq_map, List.all_cons, List.all_map]
    show (decide (a.cps.toList < b.cps.toList) && _) = (decide (a.cps.toList < b.cps.toList) && ascB (b :: r))
    rw [← ih]
    rfl
theorem zipD_strs : ∀ zs ws : List Str, zipD (zs.map D.str) (ws.map D.str) = (zs.zip ws).map fun p => D.tup [.str p.1, .str p.2]
  | [], _ => rfl
  | _ :: _, [] => rfl
  | z :: zs, w :: ws => by
    show D.tup [.str z, .str w] :: zipD (zs.map D.str) (ws.map D.str) = _
    rw [zipD_strs zs ws]
    rfl
/-! ### names and lots, judged -/
def goodS (z : Str) : Bool := decide (1 ≤ z.length) && (decide (z.length ≤ 8) && ((match z.cps.toList with | c :: _ => decide (c ∈ ("abcdefghijklmnopqrstuvwxyz" : Str).cps.toList) | [] => false) && z.cps.toList.all fun c => decide (c ∈ ("abcdefghijklmnopqrstuvwxyz0123456789" : Str).cps.toList)))
def nameB : D → Bool
  | .str z => goodS z
  | _ => false
def keyOfD (x : D) : L2.Key := (kD x).getD (.inl 0)
def namesB (v : D) : Bool := match seqOf v with
  | some xs => decide (1 ≤ xs.length) && (decide (xs.length ≤ 8) && (xs.all nameB && decide ((keysOf (xs.map keyOfD)).length = xs.length)))
  | none => false
def inB (nm : List Str) : D → Bool
  | .str z => decide (z ∈ nm)
  | _ => false
def lotB (nm : List Str) (v : D) : Bool := match seqOf v with
  | some xs => xs.all (inB nm) && ascB (xs.map strOf)
  | none => false
def lotKey (v : D) : List L2.Key := ((seqOf v).getD []).map keyOfD
def lotsB (nm : List Str) (v : D) : Bool := match seqOf v with
  | some xs => !xs.isEmpty && (xs.all (lotB nm) && decide ((keysOf (xs.map lotKey)).length = xs.length))
  | none => false
theorem strs_of {p : D → Bool} (hp : ∀ d, p d = true → ∃ z, d = .str z) : ∀ {xs : List D}, xs.all p = true → xs = (xs.map strOf).map D.str
  | [], _ => rfl
  | x :: xs, h => by
    have h2 := Bool.and_eq_true_iff.mp (show (p x && xs.all p) = true from h)
    obtain ⟨z, rfl⟩ := hp x h2.1
    rw [List.map_cons, List.map_cons, ← strs_of hp h2.2]
    rfl
theorem nameB_str (d : D) (h : nameB d = true) : ∃ z, d = .str z := by
  cases d with
  | str z => exact ⟨z, rfl⟩
  | _ => cases h
theorem inB_str {nm : List Str} (d : D) (h : inB nm d = true) : ∃ z, d = .str z := by
  cases d with
  | str z => exact ⟨z, rfl⟩
  | _ => cases h
end DV
end
section
set_option Elab.async false
set_option linter.all false
set_option maxRecDepth 100000
set_option maxHeartbeats 4000000
namespace K02
open DV PySem
/-! ### are_names -/
theorem is_list_ok {s : S} {d v : D} (h : d.strip = v) (hv : v.val = true) : F_is_list s [d] = .ok (.bl (seqOf v).isSome) s := by
  have start : F_is_list s [d] = endDef s (m_is_list [some d] s) := run_def rfl
  rw [start]
  unfold m_is_list
  simp only [RUN, isi_val h hv, seq_isi hv, RUN2]
theorem is_name_ok {s : S} {d v : D} (h : d.strip = v) (hv : v.val = true) : F_is_name s [d] = .ok (.bl (nameB v)) s := by
  have start : F_is_name s [d] = endDef s (m_is_name [some d, none] s) := run_def rfl
  rw [start]
  unfold m_is_name
  cases v with
  | str z =>
    have hz : z.length ≤ sizeLine := by
      have := of_decide_eq_true (show decide (z.length ≤ 1000000) = true from hv)
      rw [line]
      omega
    have ty : tbOf ["str"] (tyn (.str z)) = true := str_isi hv
    have c1 : decide ((1 : Int) ≤ (z.length : Int)) = decide (1 ≤ z.length) := by rw [Bool.eq_iff_iff, decide_eq_true_eq, decide_eq_true_eq]; omega
    have c2 : decide ((z.length : Int) ≤ 8) = decide (z.length ≤ 8) := by rw [Bool.eq_iff_iff, decide_eq_true_eq, decide_eq_true_eq]; omega
    show _ = Out.ok (D.bl (goodS z)) s
    unfold goodS
    by_cases h1 : 1 ≤ z.length
    · by_cases h2 : z.length ≤ 8
      · cases e : z.cps.toList with
        | nil =>
          rw [len_list, e] at h1
          cases h1
        | cons c r =>
          have all : aComp (ixSeq (xVar 0)) (.one 1) tAll E_is_name_0 [1] [some d, none] s = .ok (((z.cps.toList).map fun c => decide (c ∈ ("abcdefghijklmnopqrstuvwxyz0123456789" : Str).cps.toList)).map D.bl) s :=
            aComp_mapE z.cps.toList (fun c => D.str ⟨#[c]⟩) (fun c => decide (c ∈ ("abcdefghijklmnopqrstuvwxyz0123456789" : Str).cps.toList)) D.bl (str_seq h rfl) (by rw [← len_list]; exact hz) fun c _ => ⟨_, rfl, by simp only [E_is_name_0, RUN, in_sign]⟩
          by_cases h3 : c ∈ ("abcdefghijklmnopqrstuvwxyz" : Str).cps.toList
          · simp only [RUN, isi_val h hv, ty, Bool.not_true, str_len h hz, c1, c2, decide_eq_true h1, decide_eq_true h2, str_ix h hz e, notIn_sign, decide_eq_true h3, all, all_bl, RUN2, e, Bool.true_and]
          · simp only [RUN, isi_val h hv, ty, Bool.not_true, str_len h hz, c1, c2, decide_eq_true h1, decide_eq_true h2, str_ix h hz e, notIn_sign, decide_eq_false h3, Bool.not_false, RUN2, e, Bool.true_and, Bool.false_and]
      · simp only [RUN, isi_val h hv, ty, Bool.not_true, str_len h hz, c1, c2, decide_eq_true h1, decide_eq_false h2, Bool.not_false, RUN2, Bool.true_and, Bool.false_and]
    · simp only [RUN, isi_val h hv, ty, Bool.not_true, str_len h hz, c1, c2, decide_eq_false h1, Bool.not_false, RUN2, Bool.true_and, Bool.false_and]
  | _ =>
    have ty := str_isi hv
    simp only [RUN, isi_val h hv, ty, Bool.not_false, RUN2, nameB]
theorem f_name_ok {s : S} {d v : D} (h : d.strip = v) (hv : v.val = true) : F__law_f_name s [d] = .ok (.bl (nameB v)) s := by
  have start : F__law_f_name s [d] = endDef s (m__law_f_name [some d, none] s) := run_def rfl
  rw [start]
  unfold m__law_f_name
  cases v with
  | str z =>
    have hz : z.length ≤ sizeLine := by
      have := of_decide_eq_true (show decide (z.length ≤ 1000000) = true from hv)
      rw [line]
      omega
    have ty : tbOf ["str"] (tyn (.str z)) = true := str_isi hv
    have c1 : decide ((1 : Int) ≤ (z.length : Int)) = decide (1 ≤ z.length) := by rw [Bool.eq_iff_iff, decide_eq_true_eq, decide_eq_true_eq]; omega
    have c2 : decide ((z.length : Int) ≤ 8) = decide (z.length ≤ 8) := by rw [Bool.eq_iff_iff, decide_eq_true_eq, decide_eq_true_eq]; omega
    show _ = Out.ok (D.bl (goodS z)) s
    unfold goodS
    by_cases h1 : 1 ≤ z.length
    · by_cases h2 : z.length ≤ 8
      · cases e : z.cps.toList with
        | nil =>
          rw [len_list, e] at h1
          cases h1
        | cons c r =>
          have all : aComp (ixSeq (xVar 0)) (.one 1) tAll E__law_f_name_0 [1] [some d, none] s = .ok (((z.cps.toList).map fun c => decide (c ∈ ("abcdefghijklmnopqrstuvwxyz0123456789" : Str).cps.toList)).map D.bl) s :=
            aComp_mapE z.cps.toList (fun c => D.str ⟨#[c]⟩) (fun c => decide (c ∈ ("abcdefghijklmnopqrstuvwxyz0123456789" : Str).cps.toList)) D.bl (str_seq h rfl) (by rw [← len_list]; exact hz) fun c _ => ⟨_, rfl, by simp only [E__law_f_name_0, RUN, in_sign]⟩
          by_cases h3 : c ∈ ("abcdefghijklmnopqrstuvwxyz" : Str).cps.toList
          · simp only [RUN, isi_val h hv, ty, Bool.not_true, str_len h hz, c1, c2, decide_eq_true h1, decide_eq_true h2, str_ix h hz e, notIn_sign, decide_eq_true h3, all, all_bl, RUN2, e, Bool.true_and]
          · simp only [RUN, isi_val h hv, ty, Bool.not_true, str_len h hz, c1, c2, decide_eq_true h1, decide_eq_true h2, str_ix h hz e, notIn_sign, decide_eq_false h3, Bool.not_false, RUN2, e, Bool.true_and, Bool.false_and]
      · simp only [RUN, isi_val h hv, ty, Bool.not_true, str_len h hz, c1, c2, decide_eq_true h1, decide_eq_false h2, Bool.not_false, RUN2, Bool.true_and, Bool.false_and]
    · simp only [RUN, isi_val h hv, ty, Bool.not_true, str_len h hz, c1, c2, decide_eq_false h1, Bool.not_false, RUN2, Bool.true_and, Bool.false_and]
  | _ =>
    have ty := str_isi hv
    simp only [RUN, isi_val h hv, ty, Bool.not_false, RUN2, nameB]
theorem len_eq {m n : Nat} : decide ((m : Int) = (n : Int)) = decide (m = n) := by rw [Bool.eq_iff_iff, decide_eq_true_eq, decide_eq_true_eq]; omega
theorem are_names_ok {s : S} {d v : D} (h : d.strip = v) (hv : v.val = true) : F_are_names s [d] = .ok (.bl (namesB v)) s := by
  have start : F_are_names s [d] = endDef s (m_are_names [some d, none] s) := run_def rfl
  rw [start]
  unfold m_are_names namesB
  cases hs : seqOf v with
  | none =>
    simp only [RUN, is_list_ok h hv, hs, Option.isSome_none, Bool.not_false, RUN2]
  | some xs =>
    obtain ⟨hx1, hx2⟩ := seqOf_val hv hs
    have c1 : decide ((1 : Int) ≤ (xs.length : Int)) = decide (1 ≤ xs.length) := by rw [Bool.eq_iff_iff, decide_eq_true_eq, decide_eq_true_eq]; omega
    have c2 : decide ((xs.length : Int) ≤ 8) = decide (xs.length ≤ 8) := by rw [Bool.eq_iff_iff, decide_eq_true_eq, decide_eq_true_eq]; omega
    have all : aComp (ixSeq (xVar 0)) (.one 1) tAll E_are_names_0 [1] [some d, none] s = .ok ((xs.map nameB).map D.bl) s := by
      have z := aComp_mapE (ix := ixSeq (xVar 0)) (c := .one 1) (f := E_are_names_0) (vs := [1]) (e := [some d, none]) (s := s) (s1 := s) xs id nameB D.bl (by rw [List.map_id]; exact seq_ix h hs rfl) (by rw [line]; omega) fun x hx => ⟨_, rfl, by
        have e := is_name_ok (s := s) (val_strip (hx2 x hx)) (hx2 x hx)
        simp only [E_are_names_0, RUN, id, e]⟩
      exact z
    by_cases h1 : 1 ≤ xs.length
    · by_cases h2 : xs.length ≤ 8
      · cases h3 : xs.all nameB with
        | false =>
          simp only [RUN, is_list_ok h hv, hs, Option.isSome_some, Bool.not_true, seq_len h hs, c1, c2, decide_eq_true h1, decide_eq_true h2, all, all_bl, h3, Bool.not_false, RUN2, Bool.true_and, Bool.false_and]
        | true =>
          have e1 : xs = (xs.map strOf).map D.str := strs_of nameB_str h3
          obtain ⟨ws, dc⟩ := xDcK_keys (ix := ixSeq (xVar 0)) (c := .one 1) (fk := E_are_names_1) (fv := E_are_names_2) (vs := [1]) (e := [some d, none]) (s := s) xs id keyOfD (by rw [List.map_id]; exact seq_ix h hs rfl) (by rw [line]; omega) (fun x hx => by
            obtain ⟨z, rfl⟩ := nameB_str x (List.all_eq_true.mp h3 x hx)
            exact ⟨_, .str z, .bl true, rfl, by simp only [E_are_names_1, RUN, id], rfl, by simp only [E_are_names_2, RUN]⟩)
          simp only [RUN, is_list_ok h hv, hs, Option.isSome_some, Bool.not_true, seq_len h hs, c1, c2, decide_eq_true h1, decide_eq_true h2, all, all_bl, h3, dc, List.length_map, len_eq, RUN2, Bool.true_and]
      · simp only [RUN, is_list_ok h hv, hs, Option.isSome_some, Bool.not_true, seq_len h hs, c1, c2, decide_eq_true h1, decide_eq_false h2, Bool.not_false, RUN2, Bool.true_and, Bool.false_and]
    · simp only [RUN, is_list_ok h hv, hs, Option.isSome_some, Bool.not_true, seq_len h hs, c1, c2, decide_eq_false h1, Bool.not_false, RUN2, Bool.true_and, Bool.false_and]
theorem f_names_ok {s : S} {d v : D} (h : d.strip = v) (hv : v.val = true) : F__law_f_names s [d] = .ok (.bl (namesB v)) s := by
  have start : F__law_f_names s [d] = endDef s (m__law_f_names [some d, none] s) := run_def rfl
  rw [start]
  unfold m__law_f_names namesB
  cases hs : seqOf v with
  | none =>
    simp only [RUN, isi_val h hv, seq_isi hv, hs, Option.isSome_none, Bool.not_false, RUN2]
  | some xs =>
    obtain ⟨hx1, hx2⟩ := seqOf_val hv hs
    have c1 : decide ((1 : Int) ≤ (xs.length : Int)) = decide (1 ≤ xs.length) := by rw [Bool.eq_iff_iff, decide_eq_true_eq, decide_eq_true_eq]; omega
    have c2 : decide ((xs.length : Int) ≤ 8) = decide (xs.length ≤ 8) := by rw [Bool.eq_iff_iff, decide_eq_true_eq, decide_eq_true_eq]; omega
    have all : aComp (ixSeq (xVar 0)) (.one 1) tAll E__law_f_names_0 [1] [some d, none] s = .ok ((xs.map nameB).map D.bl) s := by
      have z := aComp_mapE (ix := ixSeq (xVar 0)) (c := .one 1) (f := E__law_f_names_0) (vs := [1]) (e := [some d, none]) (s := s) (s1 := s) xs id nameB D.bl (by rw [List.map_id]; exact seq_ix h hs rfl) (by rw [line]; omega) fun x hx => ⟨_, rfl, by
        have e := f_name_ok (s := s) (val_strip (hx2 x hx)) (hx2 x hx)
        simp only [E__law_f_names_0, RUN, id, e]⟩
      exact z
    by_cases h1 : 1 ≤ xs.length
    · by_cases h2 : xs.length ≤ 8
      · cases h3 : xs.all nameB with
        | false =>
          simp only [RUN, isi_val h hv, seq_isi hv, hs, Option.isSome_some, Bool.not_true, seq_len h hs, c1, c2, decide_eq_true h1, decide_eq_true h2, all, all_bl, h3, Bool.not_false, RUN2, Bool.true_and, Bool.false_and]
        | true =>
          have l2 : ∀ a b : D, decide ([a, b].length ≤ sizeLine) = true := fun _ _ => rfl
          have prs : aComp (ixSeq (xVar 0)) (.one 1) tAll E__law_f_names_1 [1] [some d, none] s = .ok (xs.map fun x => D.tup [x, .int 1]) s := by
            have z := aComp_mapE (ix := ixSeq (xVar 0)) (c := .one 1) (f := E__law_f_names_1) (vs := [1]) (e := [some d, none]) (s := s) (s1 := s) xs id (fun x => D.tup [x, .int 1]) id (by rw [List.map_id]; exact seq_ix h hs rfl) (by rw [line]; omega) fun x hx => ⟨_, rfl, by simp only [E__law_f_names_1, RUN, l2, id]⟩
            rw [List.map_id] at z
            exact z
          obtain ⟨ws, dc⟩ := dict_keys (s := s) id (fun _ => .int 1) keyOfD xs fun x hx => by
            obtain ⟨z, rfl⟩ := nameB_str x (List.all_eq_true.mp h3 x hx)
            rfl
          have dc : gDict s (.lst (xs.map fun x => D.tup [x, .int 1])) = some (.dct ((keysOf (xs.map keyOfD)).map keyD) ws) := dc
          simp only [RUN, isi_val h hv, seq_isi hv, hs, Option.isSome_some, Bool.not_true, seq_len h hs, c1, c2, decide_eq_true h1, decide_eq_true h2, all, all_bl, h3, prs, dc, List.length_map, len_eq, RUN2, Bool.true_and]
      · simp only [RUN, isi_val h hv, seq_isi hv, hs, Option.isSome_some, Bool.not_true, seq_len h hs, c1, c2, decide_eq_true h1, decide_eq_false h2, Bool.not_false, RUN2, Bool.true_and, Bool.false_and]
    · simp only [RUN, isi_val h hv, seq_isi hv, hs, Option.isSome_some, Bool.not_true, seq_len h hs, c1, c2, decide_eq_false h1, Bool.not_false, RUN2, Bool.true_and, Bool.false_and]
end K02
end
section
set_option Elab.async false
set_option linter.all false
set_option maxRecDepth 100000
set_option maxHeartbeats 2000000
/-! PK: lots, judged. -/
namespace DV
open PySem PySem.Spec PyProof.Rows
theorem cut_tail {α : Type} {xs : List α} : cutL xs (some 1) none = xs.drop 1 := by
  have h1 : HT.sIx xs.length 0 (some 1) = min 1 xs.length := rfl
  have h2 : HT.sIx xs.length xs.length none = xs.length := rfl
  unfold cutL
  rw [h1, h2]
  cases xs with
  | nil => rfl
  | cons x xs =>
    have e : min 1 (x :: xs).length = 1 := by
      rw [List.length_cons]
      omega
    rw [e]
    exact List.take_of_length_le (by simp)
theorem zip_tail {s : S} {d v : D} {xs : List D} (h : d.strip = v) (hs : seqOf v = some xs) : ∃ w, sliceD (view s d) (some 1) none = some w ∧ zipIx s d w = .ok ⟨zipD xs (xs.drop 1), []⟩ s := by
  have e1 : view s d = v := by
    unfold view
    rw [h]
    cases v <;> first | rfl | cases hs
  cases v with
  | lst ys =>
    cases hs
    refine ⟨.lst (xs.drop 1), ?_, ?_⟩
    · rw [e1, ← cut_tail]
      rfl
    · have e3 : srcD d xs = [] := by
        unfold srcD
        rw [h]
      have e2 : lsD s d = some (xs, []) := by
        unfold lsD
        rw [e1]
        show some (xs, srcD d xs) = _
        rw [e3]
      unfold zipIx
      rw [e2]
      rfl
  | tup ys =>
    cases hs
    refine ⟨.tup (xs.drop 1), ?_, ?_⟩
    · rw [e1, ← cut_tail]
      rfl
    · unfold zipIx lsD
      rw [e1]
      rfl
  | _ => cases hs
def strK (z : Str) : L2.Key := .inr z
theorem kD_strs : ∀ zs : List Str, kDs (zs.map D.str) = some (zs.map strK)
  | [] => rfl
  | z :: zs => by
    show (match kD (D.str z), kDs (zs.map D.str) with
      | some a, some b => some (a :: b)
      | _, _ => none) = _
    rw [kD_strs zs]
    rfl
theorem lotB_strs {nm : List Str} {v : D} (h : lotB nm v = true) : ∃ zs : List Str, seqOf v = some (zs.map D.str) ∧ (∀ z ∈ zs, z ∈ nm) ∧ ascB zs = true := by
  unfold lotB at h
  cases hs : seqOf v with
  | none =>
    rw [hs] at h
    cases h
  | some xs =>
    rw [hs] at h
    have h2 := Bool.and_eq_true_iff.mp (show (xs.all (inB nm) && ascB (xs.map strOf)) = true from h)
    refine ⟨xs.map strOf, ?_, fun z hz => ?_, h2.2⟩
    · rw [← strs_of inB_str h2.1]
    · obtain ⟨x, hx, rfl⟩ := List.mem_map.mp hz
      have hi := List.all_eq_true.mp h2.1 x hx
      obtain ⟨z, rfl⟩ := inB_str x hi
      exact of_decide_eq_true hi
theorem lotKey_strs {v : D} {zs : List Str} (h : seqOf v = some (zs.map D.str)) : lotKey v = zs.map strK := by
  unfold lotKey
  rw [h]
  show (zs.map D.str).map keyOfD = _
  rw [List.map_map]
  rfl
theorem lot_key {nm : List Str} {v : D} {s : S} (h : lotB nm v = true) : ∃ xs, gTuple s v = some (.tup xs) ∧ kTD (.tup xs) = some (lotKey v) ∧ kD (.tup xs) = none := by
  obtain ⟨zs, h1, h2, h3⟩ := lotB_strs h
  refine ⟨zs.map D.str, seq_tup (v := v) (by cases v <;> first | rfl | cases h1) h1, ?_, rfl⟩
  rw [lotKey_strs h1]
  exact kD_strs zs
theorem tupD_strs {nm : List Str} {v : D} (h : lotB nm v = true) : ∃ zs : List Str, seqOf v = some (zs.map D.str) := by
  obtain ⟨zs, h1, _⟩ := lotB_strs h
  exact ⟨zs, h1⟩
/-- ascending, asked by places -/
theorem asc_places {zs : List Str} : (rngD 1 (zs.length - 1)).map (fun d : D => match d with | .int k => decide ((zs.getD (k - 1).toNat ⟨#[]⟩).cps.toList < (zs.getD k.toNat ⟨#[]⟩).cps.toList) | _ => false) = (List.range (zs.length - 1)).map fun i => decide ((zs.getD i ⟨#[]⟩).cps.toList < (zs.getD (i + 1) ⟨#[]⟩).cps.toList) := by
  unfold rngD
  rw [List.map_map]
  refine List.map_congr_left fun i _ => ?_
  show decide ((zs.getD ((1 : Int) + (i : Int) - 1).toNat ⟨#[]⟩).cps.toList < (zs.getD ((1 : Int) + (i : Int)).toNat ⟨#[]⟩).cps.toList) = _
  rw [show ((1 : Int) + (i : Int) - 1).toNat = i by omega, show ((1 : Int) + (i : Int)).toNat = i + 1 by omega]
theorem strAt {zs : List Str} {i : Nat} {k : Int} (hk : k = (i : Int)) (h : i < zs.length) : L2.atI (zs.map D.str) k = some (.str (zs.getD i ⟨#[]⟩)) := by
  rw [atI_nat hk (by rw [List.length_map]; exact h), List.getElem_map, List.getD_eq_getElem?_getD, List.getElem?_eq_getElem h]
  rfl
theorem sorted_lst {s : S} {d : D} {xs : List D} (h : d.strip = .lst xs) : gSorted s d = gSorted s (.lst xs) := by
  have e1 : view s d = .lst xs := by
    unfold view
    rw [h]
  unfold gSorted
  rw [e1]
  rfl
end DV
end
section
set_option Elab.async false
set_option linter.all false
set_option maxRecDepth 100000
set_option maxHeartbeats 4000000
namespace K02
open DV PySem
/-! ### lots -/
theorem is_lot_ok {s : S} {d v : D} {nm : List Str} (h : d.strip = v) (hv : v.val = true) : F_is_lot s [.lst (nm.map D.str), d] = .ok (.bl (lotB nm v)) s := by
  have start : F_is_lot s [.lst (nm.map D.str), d] = endDef s (m_is_lot [some (.lst (nm.map D.str)), some d, none, none] s) := run_def rfl
  rw [start]
  unfold m_is_lot lotB
  cases hs : seqOf v with
  | none =>
    simp only [RUN, is_list_ok h hv, hs, Option.isSome_none, Bool.not_false, RUN2]
  | some xs =>
    obtain ⟨hx1, hx2⟩ := seqOf_val hv hs
    have all : aComp (ixSeq (xVar 1)) (.one 3) tAll E_is_lot_0 [3] [some (.lst (nm.map D.str)), some d, none, none] s = .ok ((xs.map (inB nm)).map D.bl) s := by
      have z := aComp_mapE (ix := ixSeq (xVar 1)) (c := .one 3) (f := E_is_lot_0) (vs := [3]) (e := [some (.lst (nm.map D.str)), some d, none, none]) (s := s) (s1 := s) xs id (inB nm) D.bl (by rw [List.map_id]; exact seq_ix h hs rfl) (by rw [line]; omega) fun x hx => ⟨_, rfl, by
        have hxv := hx2 x hx
        have e1 := isi_val (s := s) (tb := tbOf ["str"]) (cb := fun _ => none) (val_strip hxv) hxv
        have e2 := str_isi hxv
        cases x with
        | str z =>
          rw [e2] at e1
          simp only [E_is_lot_0, RUN, id, e1, in_strs]
          rfl
        | _ =>
          rw [e2] at e1
          simp only [E_is_lot_0, RUN, id, e1]
          rfl⟩
      exact z
    cases h3 : xs.all (inB nm) with
    | false =>
      simp only [RUN, is_list_ok h hv, hs, Option.isSome_some, Bool.not_true, all, all_bl, h3, Bool.not_false, RUN2, Bool.false_and]
    | true =>
      have e1 : xs = (xs.map strOf).map D.str := strs_of inB_str h3
      generalize xs.map strOf = zs at e1
      subst e1
      have hl : zs.length ≤ 1000000 := by rw [List.length_map] at hx1; exact hx1
      have len := seq_len (s := s) h hs
      rw [List.length_map] at len
      have rg : ixRng2 (aCons (xC (.int 1)) (aCons (xCall (noX (f1 gLen)) (aCons (xVar 1) aNil)) aNil)) [some (.lst (nm.map D.str)), some d, none, none] s = .ok ⟨rngD (1 : Int) (zs.length - 1), []⟩ s := rng2 (m := 1) (n := zs.length) (by simp only [RUN, len]; rfl) (by omega) (by omega)
      have asc : aComp (ixRng2 (aCons (xC (.int 1)) (aCons (xCall (noX (f1 gLen)) (aCons (xVar 1) aNil)) aNil))) (.one 2) tAll E_is_lot_1 [2] [some (.lst (nm.map D.str)), some d, none, none] s = .ok (((List.range (zs.length - 1)).map fun i => decide ((zs.getD i ⟨#[]⟩).cps.toList < (zs.getD (i + 1) ⟨#[]⟩).cps.toList)).map D.bl) s :=
        aComp_mapE (List.range (zs.length - 1)) (fun i => D.int ((1 : Int) + (i : Int))) (fun i => decide ((zs.getD i ⟨#[]⟩).cps.toList < (zs.getD (i + 1) ⟨#[]⟩).cps.toList)) D.bl rg (by rw [List.length_range, line]; omega) fun i hi => ⟨_, rfl, by
          have hi := List.mem_range.mp hi
          have a1 := seq_ixI (s := s) (k := 1 + (i : Int) - 1) h hs
          have a2 := seq_ixI (s := s) (k := 1 + (i : Int)) h hs
          rw [strAt (i := i) (by omega) (by omega)] at a1
          rw [strAt (i := i + 1) (by omega) (by omega)] at a2
          simp only [E_is_lot_1, RUN, a1, a2]⟩
      have es : (zs.map D.str).map strOf = zs := by
        rw [List.map_map]
        exact List.map_id _
      simp only [RUN, is_list_ok h hv, hs, Option.isSome_some, Bool.not_true, all, all_bl, h3, asc, asc_range, RUN2, es, Bool.true_and]
theorem b_lot_ok {s : S} {d v : D} {nm : List Str} (h : d.strip = v) (hv : v.val = true) : F__law_b_lot s [.lst (nm.map D.str), d] = .ok (.bl (lotB nm v)) s := by
  have start : F__law_b_lot s [.lst (nm.map D.str), d] = endDef s (m__law_b_lot [some (.lst (nm.map D.str)), some d, none, none] s) := run_def rfl
  rw [start]
  unfold m__law_b_lot lotB
  cases hs : seqOf v with
  | none =>
    simp only [RUN, isi_val h hv, seq_isi hv, hs, Option.isSome_none, Bool.not_false, RUN2]
  | some xs =>
    obtain ⟨hx1, hx2⟩ := seqOf_val hv hs
    have all : aComp (ixSeq (xVar 1)) (.one 2) tAll E__law_b_lot_0 [2] [some (.lst (nm.map D.str)), some d, none, none] s = .ok ((xs.map (inB nm)).map D.bl) s := by
      have z := aComp_mapE (ix := ixSeq (xVar 1)) (c := .one 2) (f := E__law_b_lot_0) (vs := [2]) (e := [some (.lst (nm.map D.str)), some d, none, none]) (s := s) (s1 := s) xs id (inB nm) D.bl (by rw [List.map_id]; exact seq_ix h hs rfl) (by rw [line]; omega) fun x hx => ⟨_, rfl, by
        have hxv := hx2 x hx
        have e1 := isi_val (s := s) (tb := tbOf ["str"]) (cb := fun _ => none) (val_strip hxv) hxv
        have e2 := str_isi hxv
        cases x with
        | str z =>
          rw [e2] at e1
          simp only [E__law_b_lot_0, RUN, id, e1, in_strs]
          rfl
        | _ =>
          rw [e2] at e1
          simp only [E__law_b_lot_0, RUN, id, e1]
          rfl⟩
      exact z
    cases h3 : xs.all (inB nm) with
    | false =>
      simp only [RUN, isi_val h hv, seq_isi hv, hs, Option.isSome_some, Bool.not_true, all, all_bl, h3, Bool.not_false, RUN2, Bool.false_and]
    | true =>
      have e1 : xs = (xs.map strOf).map D.str := strs_of inB_str h3
      generalize xs.map strOf = zs at e1
      subst e1
      have hl : zs.length ≤ 1000000 := by rw [List.length_map] at hx1; exact hx1
      have es : (zs.map D.str).map strOf = zs := by
        rw [List.map_map]
        exact List.map_id _
      have zl : (zs.zip (zs.drop 1)).length ≤ zs.length := by
        rw [List.length_zip]
        omega
      obtain ⟨w, w1, w2⟩ := zip_tail (s := s) h hs
      have zi : ixZip (aCons (xVar 1) (aCons (xSlice (xVar 1) (pAt (xC (.int 1))) pNo) aNil)) [some (.lst (nm.map D.str)), some d, none, none] s = .ok ⟨(zs.zip (zs.drop 1)).map fun p => D.tup [.str p.1, .str p.2], []⟩ s := by
        simp only [RUN, w1, w2]
        rw [← List.map_drop, zipD_strs]
      have asc : aComp (ixZip (aCons (xVar 1) (aCons (xSlice (xVar 1) (pAt (xC (.int 1))) pNo) aNil))) (.many [2, 3]) tAll E__law_b_lot_1 [2, 3] [some (.lst (nm.map D.str)), some d, none, none] s = .ok (((zs.zip (zs.drop 1)).map fun p => decide (p.1.cps.toList < p.2.cps.toList)).map D.bl) s :=
        aComp_mapE (zs.zip (zs.drop 1)) (fun p => D.tup [.str p.1, .str p.2]) (fun p => decide (p.1.cps.toList < p.2.cps.toList)) D.bl zi (by rw [line]; omega) fun p hp => ⟨_, rfl, by simp only [E__law_b_lot_1, RUN, DV.setAll]⟩
      have az := asc_zip zs
      rw [← List.drop_one] at az
      simp only [RUN, isi_val h hv, seq_isi hv, hs, Option.isSome_some, Bool.not_true, all, all_bl, h3, asc, az, RUN2, es, Bool.true_and]
theorem right_lots_ok {s : S} {d v : D} {nm : List Str} (h : d.strip = v) (hv : v.val = true) : F_are_right_lots s [.lst (nm.map D.str), d] = .ok (.bl (lotsB nm v)) s := by
  have start : F_are_right_lots s [.lst (nm.map D.str), d] = endDef s (m_are_right_lots [some (.lst (nm.map D.str)), some d, none] s) := run_def rfl
  rw [start]
  unfold m_are_right_lots lotsB
  cases hs : seqOf v with
  | none =>
    simp only [RUN, is_list_ok h hv, hs, Option.isSome_none, Bool.not_false, RUN2]
  | some xs =>
    obtain ⟨hx1, hx2⟩ := seqOf_val hv hs
    have c0 : decide ((xs.length : Int) = 0) = xs.isEmpty := by
      cases xs with
      | nil => rfl
      | cons x xs =>
        rw [decide_eq_false]
        · rfl
        · rw [List.length_cons]
          omega
    have all : aComp (ixSeq (xVar 1)) (.one 2) tAll E_are_right_lots_0 [2] [some (.lst (nm.map D.str)), some d, none] s = .ok ((xs.map (lotB nm)).map D.bl) s := by
      have z := aComp_mapE (ix := ixSeq (xVar 1)) (c := .one 2) (f := E_are_right_lots_0) (vs := [2]) (e := [some (.lst (nm.map D.str)), some d, none]) (s := s) (s1 := s) xs id (lotB nm) D.bl (by rw [List.map_id]; exact seq_ix h hs rfl) (by rw [line]; omega) fun x hx => ⟨_, rfl, by
        have e := is_lot_ok (s := s) (nm := nm) (val_strip (hx2 x hx)) (hx2 x hx)
        simp only [E_are_right_lots_0, RUN, id, e]⟩
      exact z
    cases h0 : xs.isEmpty with
    | true =>
      rw [h0] at c0
      simp only [RUN, is_list_ok h hv, hs, Option.isSome_some, Bool.not_true, seq_len h hs, c0, h0, RUN2, Bool.false_and]
    | false =>
      rw [h0] at c0
      cases h3 : xs.all (lotB nm) with
      | false =>
        simp only [RUN, is_list_ok h hv, hs, Option.isSome_some, Bool.not_true, seq_len h hs, c0, h0, all, all_bl, h3, Bool.not_false, RUN2, Bool.true_and, Bool.false_and]
      | true =>
        obtain ⟨ws, dc⟩ := xDcT_keys (ix := ixSeq (xVar 1)) (c := .one 2) (fk := E_are_right_lots_1) (fv := E_are_right_lots_2) (vs := [2]) (e := [some (.lst (nm.map D.str)), some d, none]) (s := s) xs id lotKey (by rw [List.map_id]; exact seq_ix h hs rfl) (by rw [line]; omega) (by intro z; rw [z] at h0; cases h0) (fun x hx => by
          obtain ⟨ys, k1, k2, _⟩ := lot_key (s := s) (List.all_eq_true.mp h3 x hx)
          exact ⟨_, .tup ys, .bl true, rfl, by simp only [E_are_right_lots_1, RUN, id, k1], k2, by simp only [E_are_right_lots_2, RUN]⟩)
        simp only [RUN, is_list_ok h hv, hs, Option.isSome_some, Bool.not_true, seq_len h hs, c0, h0, all, all_bl, h3, dc, List.length_map, len_eq, RUN2, Bool.true_and, Bool.not_false]
theorem f_lots_ok {s : S} {d v : D} {nm : List Str} (h : d.strip = v) (hv : v.val = true) : F__law_f_lots s [.lst (nm.map D.str), d] = .ok (.bl (lotsB nm v)) s := by
  have start : F__law_f_lots s [.lst (nm.map D.str), d] = endDef s (m__law_f_lots [some (.lst (nm.map D.str)), some d, none] s) := run_def rfl
  rw [start]
  unfold m__law_f_lots lotsB
  cases hs : seqOf v with
  | none =>
    simp only [RUN, isi_val h hv, seq_isi hv, hs, Option.isSome_none, Bool.not_false, RUN2]
  | some xs =>
    obtain ⟨hx1, hx2⟩ := seqOf_val hv hs
    have c0 : decide ((xs.length : Int) = 0) = xs.isEmpty := by
      cases xs with
      | nil => rfl
      | cons x xs =>
        rw [decide_eq_false]
        · rfl
        · rw [List.length_cons]
          omega
    have all : aComp (ixSeq (xVar 1)) (.one 2) tAll E__law_f_lots_0 [2] [some (.lst (nm.map D.str)), some d, none] s = .ok ((xs.map (lotB nm)).map D.bl) s := by
      have z := aComp_mapE (ix := ixSeq (xVar 1)) (c := .one 2) (f := E__law_f_lots_0) (vs := [2]) (e := [some (.lst (nm.map D.str)), some d, none]) (s := s) (s1 := s) xs id (lotB nm) D.bl (by rw [List.map_id]; exact seq_ix h hs rfl) (by rw [line]; omega) fun x hx => ⟨_, rfl, by
        have e := b_lot_ok (s := s) (nm := nm) (val_strip (hx2 x hx)) (hx2 x hx)
        simp only [E__law_f_lots_0, RUN, id, e]⟩
      exact z
    cases h0 : xs.isEmpty with
    | true =>
      rw [h0] at c0
      simp only [RUN, isi_val h hv, seq_isi hv, hs, Option.isSome_some, Bool.not_true, seq_len h hs, c0, h0, RUN2, Bool.false_and]
    | false =>
      rw [h0] at c0
      cases h3 : xs.all (lotB nm) with
      | false =>
        simp only [RUN, isi_val h hv, seq_isi hv, hs, Option.isSome_some, Bool.not_true, seq_len h hs, c0, h0, all, all_bl, h3, Bool.not_false, RUN2, Bool.true_and, Bool.false_and]
      | true =>
        have l2 : ∀ a b : D, decide ([a, b].length ≤ sizeLine) = true := fun _ _ => rfl
        have hne : xs ≠ [] := by intro z; rw [z] at h0; cases h0
        have kk : ∀ x ∈ xs, ∃ ys, gTuple s x = some (.tup ys) ∧ kTD (.tup ys) = some (lotKey x) ∧ kD (.tup ys) = none := fun x hx => lot_key (s := s) (List.all_eq_true.mp h3 x hx)
        have tu : ∀ x ∈ xs, gTuple s x = some (.tup ((seqOf x).getD [])) := fun x hx => by
          obtain ⟨zs, hz⟩ := lotB_strs (List.all_eq_true.mp h3 x hx)
          rw [hz.1]
          exact seq_tup (val_strip (hx2 x hx)) hz.1
        have prs : aComp (ixSeq (xVar 1)) (.one 2) tAll E__law_f_lots_1 [2] [some (.lst (nm.map D.str)), some d, none] s = .ok (xs.map fun x => D.tup [.tup ((seqOf x).getD []), .int 1]) s := by
          have z := aComp_mapE (ix := ixSeq (xVar 1)) (c := .one 2) (f := E__law_f_lots_1) (vs := [2]) (e := [some (.lst (nm.map D.str)), some d, none]) (s := s) (s1 := s) xs id (fun x => D.tup [.tup ((seqOf x).getD []), .int 1]) id (by rw [List.map_id]; exact seq_ix h hs rfl) (by rw [line]; omega) fun x hx => ⟨_, rfl, by simp only [E__law_f_lots_1, RUN, l2, id, tu x hx]⟩
          rw [List.map_id] at z
          exact z
        obtain ⟨ws, dc⟩ := dict_keysT (s := s) (fun x : D => D.tup ((seqOf x).getD [])) (fun _ => .int 1) lotKey xs hne (fun x hx => rfl) (fun x hx => by
          obtain ⟨zs, hz⟩ := lotB_strs (List.all_eq_true.mp h3 x hx)
          rw [lotKey_strs hz.1, hz.1]
          exact kD_strs zs)
        have dc : gDict s (.lst (xs.map fun x => D.tup [.tup ((seqOf x).getD []), .int 1])) = some (.dct ((keysOf (xs.map lotKey)).map keyT) ws) := dc
        simp only [RUN, isi_val h hv, seq_isi hv, hs, Option.isSome_some, Bool.not_true, seq_len h hs, c0, h0, all, all_bl, h3, prs, dc, List.length_map, len_eq, RUN2, Bool.true_and, Bool.not_false]
end K02
end
section
set_option Elab.async false
set_option linter.all false
set_option maxRecDepth 100000
set_option maxHeartbeats 4000000
namespace K02
open DV PySem
theorem back_own1 {s : S} {o : MO} : back s (s.own o) = s := back_own (by show (s.mo ++ [o]).take s.mo.length = s.mo; rw [List.take_left])
theorem end_exc {s : S} {c : Nat} {ds : List D} {e : DV.Env} (h : D.lows s.mo.length s.tg ds = true) : endDef s (.exc c ds e s) = .exc c ds s := by
  show (if D.lows s.mo.length s.tg ds = true then Out.exc c ds (back s s) else .stuck) = _
  rw [if_pos h, back_self]
theorem low1 {n t : Nat} {d : D} (h : d.low n t = true) : D.lows n t [d] = true := by
  show (d.low n t && true) = true
  rw [h]
  rfl
theorem are_lots_no {s : S} {d v x : D} (h : d.strip = v) (hv : v.val = true) (hl : d.low s.mo.length s.tg = true) (hn : namesB v = false) : F_are_lots s [d, x] = .exc 0 [d] s := by
  have start : F_are_lots s [d, x] = endDef s (m_are_lots [some d, some x] s) := run_def rfl
  rw [start]
  unfold m_are_lots
  simp only [RUN, are_names_ok h hv, hn, Bool.not_false, end_exc (low1 hl)]
theorem are_lots_ok {s : S} {d v x w : D} {nm : List Str} (h : d.strip = v) (hv : v.val = true) (hn : namesB v = true) (hs : seqOf v = some (nm.map D.str)) (hx : x.strip = w) (hw : w.val = true) : F_are_lots s [d, x] = .ok (.bl (lotsB nm w)) s := by
  have start : F_are_lots s [d, x] = endDef s (m_are_lots [some d, some x] s) := run_def rfl
  rw [start]
  unfold m_are_lots
  simp only [RUN, are_names_ok h hv, hn, Bool.not_true, seq_list h hs, right_lots_ok hx hw, RUN2]
theorem check_no {s : S} {d v : D} (h : d.strip = v) (hv : v.val = true) (hl : d.low s.mo.length s.tg = true) (hn : namesB v = false) : F_check_names s [d] = .exc 0 [d] s := by
  have start : F_check_names s [d] = endDef s (m_check_names [some d] s) := run_def rfl
  rw [start]
  unfold m_check_names
  simp only [RUN, are_names_ok h hv, hn, Bool.not_false, end_exc (low1 hl)]
theorem check_ok {s : S} {d v : D} (h : d.strip = v) (hv : v.val = true) (hn : namesB v = true) : F_check_names s [d] = .ok .non s := by
  have start : F_check_names s [d] = endDef s (m_check_names [some d] s) := run_def rfl
  rw [start]
  unfold m_check_names
  simp only [RUN, are_names_ok h hv, hn, Bool.not_true, RUN2]
theorem in_seq {s : S} {z : Str} {v : D} {zs : List Str} (hs : seqOf v = some (zs.map D.str)) : ∃ b, gIn s (.str z) v = some (.bl b) := by
  have h : ∀ l : List Str, fls (l.map D.str) = some (l.map L2.V.str) := fun l => by
    induction l with
    | nil => rfl
    | cons x xs ih =>
      show (match fl (.str x), fls (xs.map D.str) with
        | some a, some b => some (a :: b)
        | _, _ => none) = _
      rw [ih]
      rfl
  cases v with
  | lst xs =>
    cases hs
    exact ⟨_, in_strs⟩
  | tup xs =>
    cases hs
    refine ⟨L2.inV (L2.V.str z) (zs.map L2.V.str), ?_⟩
    have e : inD s (.str z) (.tup (zs.map D.str)) = inTup (.str z) (zs.map D.str) := rfl
    unfold gIn
    rw [e]
    unfold inTup
    rw [h]
    rfl
  | _ => cases hs
theorem mask_ok {s : S} {v : D} {nm zs : List Str} (hs : seqOf v = some (zs.map D.str)) (hl : nm.length ≤ 8) : ∃ k : Int, F_mask_of s [.lst (nm.map D.str), v] = .ok (.int k) s := by
  have start : F_mask_of s [.lst (nm.map D.str), v] = endDef s (m_mask_of [some (.lst (nm.map D.str)), some v, none, none, none] s) := run_def rfl
  rw [start]
  unfold m_mask_of
  obtain ⟨e', s', run, es, ys, j, k, c3, c4, _, _, ee⟩ := for_run (g := gUnp 2 (gsCons (gVar 3) (gsCons (gVar 4) gsNil))) (body := B_mask_of_0) (w := ⟨enumD 0 (nm.map D.str), []⟩) (e := [some (.lst (nm.map D.str)), some v, some (.int 0), none, none]) (s := s) (ds := enumD 0 (nm.map D.str))
    (fun ds e t => t = s ∧ ∃ (ys : List Str) (j : Nat) (k : Int) (c3 c4 : Option D), ds = enumD j (ys.map D.str) ∧ j + ys.length ≤ 8 ∧ e = [some (.lst (nm.map D.str)), some v, some (.int k), c3, c4])
    ⟨rfl, nm, 0, 0, none, none, rfl, by omega, rfl⟩ (fun _ _ _ _ => same_nil) (by
      rintro d ds e t ⟨rfl, ys, j, k, c3, c4, h1, h2, rfl⟩
      cases ys with
      | nil => cases h1
      | cons y ys =>
        have h2 : j + (ys.length + 1) ≤ 8 := h2
        cases (show d :: ds = D.tup [.int j, .str y] :: enumD (j + 1) (ys.map D.str) from h1)
        obtain ⟨b, hb⟩ := in_seq (s := t) (z := y) hs
        have sh : nShl 1 (j : Int) = some (.int (1 * 2 ^ (j : Int).toNat)) := if_pos ⟨by omega, by omega, by decide⟩
        refine ⟨[some (.lst (nm.map D.str)), some v, some (.int k), some (.int (j : Int)), some (.str y)], t, by simp only [RUN], ?_⟩
        cases b with
        | true =>
          exact ⟨[some (.lst (nm.map D.str)), some v, some (.int (k + 1 * 2 ^ (j : Int).toNat)), some (.int (j : Int)), some (.str y)], t, by unfold B_mask_of_0; simp only [RUN, hb, sh], rfl, ys, j + 1, _, _, _, rfl, by omega, rfl⟩
        | false =>
          exact ⟨[some (.lst (nm.map D.str)), some v, some (.int k), some (.int (j : Int)), some (.str y)], t, by unfold B_mask_of_0; simp only [RUN, hb], rfl, ys, j + 1, _, _, _, rfl, by omega, rfl⟩)
  subst es
  refine ⟨k, ?_⟩
  simp only [RUN, run, ee, RUN2]

/-! ### Family -/
theorem make_no {s : S} {d v x : D} (h : d.strip = v) (hv : v.val = true) (hl : d.low s.mo.length s.tg = true) (hn : namesB v = false) : runMake 2 2 F_Family___init__ s [d, x] = .exc 0 [d] s := by
  have start : F_Family___init__ (s.own (.ins 2 [])) [.ref s.mo.length, d, x] = endDef (s.own (.ins 2 [])) (m_Family___init__ [some (.ref s.mo.length), some d, some x, none, none] (s.own (.ins 2 []))) := run_def rfl
  have hl2 : d.low (s.own (.ins 2 [])).mo.length (s.own (.ins 2 [])).tg = true := low_mono (by rw [own_len]; omega) (Nat.le_refl _) _ hl
  have e : F_Family___init__ (s.own (.ins 2 [])) [.ref s.mo.length, d, x] = .exc 0 [d] (s.own (.ins 2 [])) := by
    rw [start]
    unfold m_Family___init__
    simp only [RUN, check_no h hv hl2 hn, end_exc (low1 hl2)]
  unfold runMake
  rw [e]
  show (if D.lows s.mo.length s.tg [d] = true then Out.exc 0 [d] (back s (s.own (.ins 2 []))) else .stuck) = _
  rw [if_pos (low1 hl), back_own1]
theorem fld_set {s : S} {i c j : Nat} {vs : List D} {x : D} {fe : Ex} {e : DV.Env} (hi : s.mo[i]? = some (.ins c vs)) (hx : fe e s = .ok x s) (h0 : e[0]? = some (some (.ref i))) (hj : j = vs.length) (hl : x.low 0 0 = true) : sFldS (ix1 c j) (xVar 0) fe e s = .next e (s.put i (.ins c (vs ++ [x]))) := by
  show (fe e s).fl e _ = _
  rw [hx]
  show (xVar 0 e s).fl e _ = _
  rw [r_var, h0]
  show (match view s (.ref i) with
    | .inst c' _ => (match (ix1 c j c').bind fun k => insSet k s (.ref i) x with
      | some s' => Fl.next e s'
      | none => .stuck)
    | _ => .stuck) = _
  rw [view_refI hi]
  show (match (ix1 c j c).bind fun k => insSet k s (.ref i) x with
      | some s' => Fl.next e s'
      | none => .stuck) = _
  rw [show ix1 c j c = some j from if_pos rfl]
  show (match insSet j s (.ref i) x with
      | some s' => Fl.next e s'
      | none => .stuck) = _
  have q : insSet j s (.ref i) x = some (s.put i (.ins c (vs ++ [x]))) := by
    show (match s.mo[i]? with
    | some (.ins c vs) => if x.low 0 0 = true then (if j < vs.length then some (s.put i (.ins c (vs.set j x))) else if j = vs.length then some (s.put i (.ins c (vs ++ [x]))) else none) else none
    | _ => none) = _
    rw [hi]
    show (if x.low 0 0 = true then (if j < vs.length then some (s.put i (.ins c (vs.set j x))) else if j = vs.length then some (s.put i (.ins c (vs ++ [x]))) else none) else none) = _
    rw [if_pos hl, if_neg (by omega), if_pos hj]
  rw [q]
theorem names_len {v : D} {nm : List Str} (hn : namesB v = true) (hs : seqOf v = some (nm.map D.str)) : nm.length ≤ 8 := by
  unfold namesB at hn
  rw [hs] at hn
  have h := Bool.and_eq_true_iff.mp (show (decide (1 ≤ (nm.map D.str).length) && (decide ((nm.map D.str).length ≤ 8) && _)) = true from hn)
  have h2 := of_decide_eq_true (Bool.and_eq_true_iff.mp h.2).1
  rwa [List.length_map] at h2
theorem lotsB_perm {nm nm' : List Str} (h : ∀ z, z ∈ nm ↔ z ∈ nm') (v : D) : lotsB nm v = lotsB nm' v := by
  have e : ∀ x, inB nm x = inB nm' x := fun x => by
    cases x with
    | str z => exact decide_eq_decide.mpr (h z)
    | _ => rfl
  have e1 : inB nm = inB nm' := funext e
  have e2 : lotB nm = lotB nm' := by
    funext x
    unfold lotB
    rw [e1]
  unfold lotsB
  rw [e2]
theorem make_lots_no {s : S} {d x w : D} {nm : List Str} (h : d.strip = .lst (nm.map D.str)) (hv : (D.lst (nm.map D.str)).val = true) (hn : namesB (.lst (nm.map D.str)) = true) (hx : x.strip = w) (hw : w.val = true) (hl : x.low s.mo.length s.tg = true) (hb : lotsB nm w = false) : runMake 2 2 F_Family___init__ s [d, x] = .exc 1 [x] s := by
  have start : F_Family___init__ (s.own (.ins 2 [])) [.ref s.mo.length, d, x] = endDef (s.own (.ins 2 [])) (m_Family___init__ [some (.ref s.mo.length), some d, some x, none, none] (s.own (.ins 2 []))) := run_def rfl
  have hl2 : x.low (s.own (.ins 2 [])).mo.length (s.own (.ins 2 [])).tg = true := low_mono (by rw [own_len]; omega) (Nat.le_refl _) _ hl
  have n8 := names_len hn rfl
  have so : gSorted (s.own (.ins 2 [])) d = some ((sortS nm).map D.str) := by
    have q := sorted_strs (s := s.own (.ins 2 [])) (ns := nm) (by rw [line]; omega)
    rw [← q]
    exact sorted_lst h
  have rl := right_lots_ok (s := s.own (.ins 2 [])) (nm := sortS nm) hx hw
  rw [lotsB_perm (nm' := nm) (fun z => sortS_perm.mem_iff), hb] at rl
  have e : F_Family___init__ (s.own (.ins 2 [])) [.ref s.mo.length, d, x] = .exc 1 [x] (s.own (.ins 2 [])) := by
    rw [start]
    unfold m_Family___init__
    simp only [RUN, check_ok h hv hn, so, rl, Bool.not_false, end_exc (low1 hl2)]
  unfold runMake
  rw [e]
  show (if D.lows s.mo.length s.tg [x] = true then Out.exc 1 [x] (back s (s.own (.ins 2 []))) else .stuck) = _
  rw [if_pos (low1 hl), back_own1]
theorem init_ok {own : S} {i : Nat} {d x w : D} {nm : List Str} (f1 : own.mo[i]? = some (.ins 2 [])) (h : d.strip = .lst (nm.map D.str)) (hv : (D.lst (nm.map D.str)).val = true) (hn : namesB (.lst (nm.map D.str)) = true) (hx : x.strip = w) (hw : w.val = true) (hb : lotsB nm w = true) : ∃ ks : List Int, F_Family___init__ own [.ref i, d, x] = .ok .non (own.put i (.ins 2 [.lst ((sortS nm).map D.str), .lst (ks.map D.int)])) := by
  have start : F_Family___init__ own [.ref i, d, x] = endDef own (m_Family___init__ [some (.ref i), some d, some x, none, none] own) := run_def rfl
  have n8 := names_len hn rfl
  have so : gSorted own d = some ((sortS nm).map D.str) := by
    have q := sorted_strs (s := own) (ns := nm) (by rw [line]; omega)
    rw [← q]
    exact sorted_lst h
  have sl : (sortS nm).length ≤ 8 := by rw [sortS_perm.length_eq]; exact n8
  have rl := right_lots_ok (s := own) (nm := sortS nm) hx hw
  rw [lotsB_perm (nm' := nm) (fun z => sortS_perm.mem_iff), hb] at rl
  unfold lotsB at hb
  cases ws : seqOf w with
  | none =>
    rw [ws] at hb
    cases hb
  | some xs =>
    rw [ws] at hb
    have hb := (Bool.and_eq_true_iff.mp (Bool.and_eq_true_iff.mp (show (!xs.isEmpty && (xs.all (lotB nm) && _)) = true from hb)).2).1
    obtain ⟨hx1, hx2⟩ := seqOf_val hw ws
    have mk : ∀ (t : S) (y : D), y ∈ xs → ∃ k : Int, F_mask_of t [.lst ((sortS nm).map D.str), y] = .ok (.int k) t := fun t y hy => by
      obtain ⟨zs, hz, _⟩ := lotB_strs (List.all_eq_true.mp hb y hy)
      exact mask_ok hz sl
    obtain ⟨t1, ht⟩ : ∃ t1, t1 = own.put i (.ins 2 [.lst ((sortS nm).map D.str)]) := ⟨_, rfl⟩
    have f2 : t1.mo[i]? = some (.ins 2 [.lst ((sortS nm).map D.str)]) := by
      rw [ht]
      exact put_get f1
    obtain ⟨g, hg⟩ : ∃ g : D → Int, ∀ y ∈ xs, F_mask_of t1 [.lst ((sortS nm).map D.str), y] = .ok (.int (g y)) t1 := by
      classical
      refine ⟨fun y => if hy : y ∈ xs then (mk t1 y hy).choose else 0, fun y hy => ?_⟩
      have q := (mk t1 y hy).choose_spec
      simpa only [dif_pos hy] using q
    have cm : aComp (ixSeq (xVar 2)) (.one 4) tAll E_Family___init___0 [4] [some (.ref i), some d, some x, some (.lst ((sortS nm).map D.str)), none] t1 = .ok ((xs.map g).map D.int) t1 := by
      have z := aComp_mapE (ix := ixSeq (xVar 2)) (c := .one 4) (f := E_Family___init___0) (vs := [4]) (e := [some (.ref i), some d, some x, some (.lst ((sortS nm).map D.str)), none]) (s := t1) (s1 := t1) xs id g D.int (by rw [List.map_id]; exact seq_ix hx ws rfl) (by rw [line]; omega) fun y hy => ⟨_, rfl, by
        simp only [E_Family___init___0, RUN, id, hg y hy]⟩
      exact z
    have so2 : gSorted t1 (.lst ((xs.map g).map D.int)) = some ((sortI (xs.map g)).map D.int) := sorted_ints (by rw [List.length_map, line]; omega)
    have w1 : sFldS (ix1 2 0) (xVar 0) (xVar 3) [some (.ref i), some d, some x, some (.lst ((sortS nm).map D.str)), none] own = .next [some (.ref i), some d, some x, some (.lst ((sortS nm).map D.str)), none] t1 := by
      rw [ht]
      exact fld_set f1 rfl rfl rfl (lows_map fun z hz => rfl)
    have w2 : sFldS (ix1 2 1) (xVar 0) (xFz (aCallN (fn1 gSorted) (aCons (xFz (aComp (ixSeq (xVar 2)) (.one 4) tAll E_Family___init___0 [4])) aNil))) [some (.ref i), some d, some x, some (.lst ((sortS nm).map D.str)), none] t1 = .next [some (.ref i), some d, some x, some (.lst ((sortS nm).map D.str)), none] (t1.put i (.ins 2 [.lst ((sortS nm).map D.str), .lst ((sortI (xs.map g)).map D.int)])) :=
      fld_set f2 (by simp only [RUN, cm, so2]) rfl rfl (lows_map fun z hz => rfl)
    have pp : t1.put i (.ins 2 [.lst ((sortS nm).map D.str), .lst ((sortI (xs.map g)).map D.int)]) = own.put i (.ins 2 [.lst ((sortS nm).map D.str), .lst ((sortI (xs.map g)).map D.int)]) := by
      rw [ht]
      exact put_put
    rw [pp] at w2
    refine ⟨sortI (xs.map g), ?_⟩
    rw [start]
    unfold m_Family___init__
    simp only [RUN, check_ok h hv hn, so, rl, Bool.not_true, w1, w2, RUN2]
theorem make_eq {g : S → List D → Out D} {s t : S} {c nf : Nat} {vs ds : List D} (h : g (s.own (.ins c [])) (.ref s.mo.length :: ds) = .ok .non t) (ht : t.mo[s.mo.length]? = some (.ins c vs)) (hl : vs.length = nf) (hb : back s t = s) : runMake c nf g s ds = .ok (.inst c vs) s := by
  unfold runMake
  rw [h]
  simp only [ht, hl, hb, and_self, if_true]
theorem make_ok {s : S} {d x w : D} {nm : List Str} (h : d.strip = .lst (nm.map D.str)) (hv : (D.lst (nm.map D.str)).val = true) (hn : namesB (.lst (nm.map D.str)) = true) (hx : x.strip = w) (hw : w.val = true) (hb : lotsB nm w = true) : ∃ ks : List Int, runMake 2 2 F_Family___init__ s [d, x] = .ok (.inst 2 [.lst ((sortS nm).map D.str), .lst (ks.map D.int)]) s := by
  have f1 : (s.own (.ins 2 [])).mo[s.mo.length]? = some (.ins 2 []) := own_get
  obtain ⟨ks, e⟩ := init_ok f1 h hv hn hx hw hb
  exact ⟨ks, make_eq e (put_get f1) rfl (back_own (by
    show ((s.mo ++ [MO.ins 2 []]).set s.mo.length _).take s.mo.length = s.mo
    rw [List.take_set_of_le (Nat.le_refl _), List.take_left]))⟩
end K02
end
section
set_option Elab.async false
set_option linter.all false
set_option maxRecDepth 100000
set_option maxHeartbeats 2000000
/-! PL: a thing beside itself. -/
namespace DV
open PySem PySem.Spec PyProof.Rows
/-- no dict within, not deep -/
def D.smp : Nat → D → Bool
  | _, .non => true
  | _, .bl _ => true
  | _, .int _ => true
  | _, .str _ => true
  | n + 1, .lst xs => xs.all (D.smp n)
  | n + 1, .tup xs => xs.all (D.smp n)
  | _, _ => false
theorem zip_self {s : S} {d v : D} {xs : List D} (h : d.strip = v) (hs : seqOf v = some xs) : zipIx s d d = .ok ⟨xs.map fun x => D.tup [x, x], []⟩ s := by
  have e1 : view s d = v := by
    unfold view
    rw [h]
    cases v <;> first | rfl | cases hs
  have e2 : ∀ l : List D, zipD l l = l.map fun x => D.tup [x, x] := fun l => by
    induction l with
    | nil => rfl
    | cons x l ih =>
      show D.tup [x, x] :: zipD l l = _
      rw [ih]
      rfl
  cases v with
  | lst ys =>
    cases hs
    have e3 : srcD d xs = [] := by
      unfold srcD
      rw [h]
    have e4 : lsD s d = some (xs, []) := by
      unfold lsD
      rw [e1]
      show some (xs, srcD d xs) = _
      rw [e3]
    unfold zipIx
    rw [e4]
    show Out.ok (⟨zipD xs xs, [] ++ []⟩ : Wk) s = _
    rw [e2]
    rfl
  | tup ys =>
    cases hs
    unfold zipIx lsD
    rw [e1]
    show Out.ok (⟨zipD xs xs, []⟩ : Wk) s = _
    rw [e2]
  | _ => cases hs
theorem eq_selfI {s : S} {d : D} {i : Int} (h : d.strip = .int i) : gEq s d d = some (.bl true) := by
  have e : view s d = .int i := by
    unfold view
    rw [h]
  unfold gEq
  rw [e]
  show some (D.bl (decide (i = i))) = _
  rw [decide_eq_true rfl]
theorem eq_selfS {s : S} {d : D} {i : Str} (h : d.strip = .str i) : gEq s d d = some (.bl true) := by
  have e : view s d = .str i := by
    unfold view
    rw [h]
  unfold gEq
  rw [e]
  show some (D.bl (decide (i = i))) = _
  rw [decide_eq_true rfl]
theorem eq_selfB {s : S} {d : D} {i : Bool} (h : d.strip = .bl i) : gEq s d d = some (.bl true) := by
  have e : view s d = .bl i := by
    unfold view
    rw [h]
  unfold gEq
  rw [e]
  cases i <;> rfl
def nonB : D → Bool
  | .non => true
  | _ => false
theorem isN_val {s : S} {d v : D} (h : d.strip = v) : gIsN s d .non = some (.bl (nonB v)) := by
  have e : D.non.isNon = true := rfl
  unfold gIsN
  rw [if_pos e]
  show some (D.bl (nonB d.strip)) = _
  rw [h]
end DV
end
section
set_option Elab.async false
set_option linter.all false
set_option maxRecDepth 100000
set_option maxHeartbeats 4000000
namespace K02
open DV PySem
/-! ### alike -/
theorem same_ok : ∀ (n : Nat) {s : S} {d v : D}, d.strip = v → v.val = true → v.smp n = true → G__law_same (n + 1) s [d, d] = .ok (.bl true) s
  | n, s, d, v, h, hv, hm => by
    have tt : ∀ tb : String → Bool, gIsi tb (fun _ => none) s d = some (.bl (tb (tyn v))) := fun tb => isi_val h hv
    have seq : ∀ xs, seqOf v = some xs → (n ≠ 0 ∧ ∀ x ∈ xs, ∀ s : S, G__law_same n s [x, x] = .ok (.bl true) s) → (tbOf ["dict"] (tyn v) = false) → G__law_same (n + 1) s [d, d] = .ok (.bl true) s := fun xs hs hx hd => by
      obtain ⟨hx1, hx2⟩ := seqOf_val hv hs
      have start : G__law_same (n + 1) s [d, d] = endDef s (_) := run_def (n := 2) (nN := 5) (ds := [d, d]) rfl
      rw [start]
      have sq : tbOf ["list", "tuple"] (tyn v) = true := by rw [seq_isi hv, hs]; rfl
      have cm : aComp (ixZip (aCons (xVar 0) (aCons (xVar 1) aNil))) (.many [3, 4]) tAll (xCall (G__law_same n) (aCons (xVar 3) (aCons (xVar 4) aNil))) [3, 4] [some d, some d, none, none, none] s = .ok ((xs.map fun _ => true).map D.bl) s :=
        aComp_mapE xs (fun x => D.tup [x, x]) (fun _ => true) D.bl (by simp only [RUN, zip_self h hs]) (by rw [line]; omega) fun x hx' => ⟨_, rfl, by
          simp only [RUN, DV.setAll, hx.2 x hx' s]⟩
      have al : xs.all (fun _ => true) = true := by simp
      show endDef s (sSeq _ _ [some d, some d, none, none, none] s) = _
      simp only [RUN, tt, hd, sq, Bool.not_true, decide_true, seq_len h hs, cm, all_bl, al, RUN2]
    cases v with
    | lst xs => 
      cases n with
      | zero => cases hm
      | succ n =>
        obtain ⟨hx1, hx2⟩ := seqOf_val hv rfl
        exact seq xs rfl ⟨Nat.succ_ne_zero n, fun x hx s => same_ok n (val_strip (hx2 x hx)) (hx2 x hx) (List.all_eq_true.mp (show xs.all (D.smp n) = true from hm) x hx)⟩ rfl
    | tup xs => 
      cases n with
      | zero => cases hm
      | succ n =>
        obtain ⟨hx1, hx2⟩ := seqOf_val hv rfl
        exact seq xs rfl ⟨Nat.succ_ne_zero n, fun x hx s => same_ok n (val_strip (hx2 x hx)) (hx2 x hx) (List.all_eq_true.mp (show xs.all (D.smp n) = true from hm) x hx)⟩ rfl
    | non =>
      have start : G__law_same (n + 1) s [d, d] = endDef s (_) := run_def (n := 2) (nN := 5) (ds := [d, d]) rfl
      rw [start]
      show endDef s (sSeq _ _ [some d, some d, none, none, none] s) = _
      have t1 : tbOf ["dict"] (tyn .non) = false := rfl
      have t2 : tbOf ["list", "tuple"] (tyn .non) = false := rfl
      have t3 : tbOf ["dict", "list", "tuple"] (tyn .non) = false := rfl
      simp only [RUN, tt, t1, t2, t3, isN_val h, nonB, Bool.not_true, Bool.not_false, decide_true, RUN2]
    | bl b =>
      have start : G__law_same (n + 1) s [d, d] = endDef s (_) := run_def (n := 2) (nN := 5) (ds := [d, d]) rfl
      rw [start]
      show endDef s (sSeq _ _ [some d, some d, none, none, none] s) = _
      have t1 : tbOf ["dict"] (tyn (.bl b)) = false := rfl
      have t2 : tbOf ["list", "tuple"] (tyn (.bl b)) = false := rfl
      have t3 : tbOf ["dict", "list", "tuple"] (tyn (.bl b)) = false := rfl
      simp only [RUN, tt, t1, t2, t3, isN_val h, nonB, eq_selfB h, Bool.not_true, Bool.not_false, decide_true, RUN2]
    | int i =>
      have start : G__law_same (n + 1) s [d, d] = endDef s (_) := run_def (n := 2) (nN := 5) (ds := [d, d]) rfl
      rw [start]
      show endDef s (sSeq _ _ [some d, some d, none, none, none] s) = _
      have t1 : tbOf ["dict"] (tyn (.int i)) = false := rfl
      have t2 : tbOf ["list", "tuple"] (tyn (.int i)) = false := rfl
      have t3 : tbOf ["dict", "list", "tuple"] (tyn (.int i)) = false := rfl
      simp only [RUN, tt, t1, t2, t3, isN_val h, nonB, eq_selfI h, Bool.not_true, Bool.not_false, decide_true, RUN2]
    | str z =>
      have start : G__law_same (n + 1) s [d, d] = endDef s (_) := run_def (n := 2) (nN := 5) (ds := [d, d]) rfl
      rw [start]
      show endDef s (sSeq _ _ [some d, some d, none, none, none] s) = _
      have t1 : tbOf ["dict"] (tyn (.str z)) = false := rfl
      have t2 : tbOf ["list", "tuple"] (tyn (.str z)) = false := rfl
      have t3 : tbOf ["dict", "list", "tuple"] (tyn (.str z)) = false := rfl
      simp only [RUN, tt, t1, t2, t3, isN_val h, nonB, eq_selfS h, Bool.not_true, Bool.not_false, decide_true, RUN2]
    | _ => cases n <;> cases hm
/-- the very thing that was passed -/
theorem very_ok {s : S} {i : Nat} {v : D} (hv : v.val = true) (hm : v.smp 11 = true ∨ v = .dct [] []) : F__law_very s [.tag i v, .tag i v] = .ok (.bl true) s := by
  have start : F__law_very s [.tag i v, .tag i v] = endDef s (m__law_very [some (.tag i v), some (.tag i v), none] s) := run_def rfl
  have hst : (D.tag i v).strip = v := val_strip hv
  have tt : ∀ tb : String → Bool, gIsi tb (fun _ => none) s (.tag i v) = some (.bl (tb (tyn v))) := fun tb => isi_val hst hv
  have atom : v.smp 11 = true → tbOf ["list"] (tyn v) = false → tbOf ["dict"] (tyn v) = false → (tbOf ["tuple", "str", "bool", "int"] (tyn v) = true ∨ v = .non) → F__law_very s [.tag i v, .tag i v] = .ok (.bl true) s := fun hm t1 t2 t3 => by
    have sm : F__law_same s [.tag i v, .tag i v] = .ok (.bl true) s := same_ok 11 hst hv hm
    rw [start]
    unfold m__law_very
    rcases t3 with t3 | rfl
    · simp only [RUN, tt, t1, t2, t3, sm, RUN2]
    · have t3 : tbOf ["tuple", "str", "bool", "int"] (tyn .non) = false := rfl
      simp only [RUN, tt, t1, t2, t3, isN_val hst, nonB, sm, RUN2]
  cases v with
  | lst xs =>
    rw [start]
    unfold m__law_very
    have t1 : tbOf ["list"] (tyn (.lst xs)) = true := rfl
    have hl := (seqOf_val hv rfl).1
    have ve : sVeryL [some (.tag i (.lst xs)), some (.tag i (.lst xs)), none] s = .ret (.bl true) s := by
      show (match (if i = i then some (D.lst xs) else none) with
        | some (.lst xs) => if xs.length < sizeLine then Fl.ret (.bl true) s else .stuck
        | _ => .stuck) = _
      rw [if_pos rfl]
      show (if xs.length < sizeLine then Fl.ret (.bl true) s else .stuck) = _
      rw [if_pos (by rw [line]; omega)]
    simp only [RUN, tt, t1, ve, RUN2]
  | dct ks vs =>
    rcases hm with hm | hm
    · cases hm
    · cases hm
      rw [start]
      unfold m__law_very
      have t1 : tbOf ["list"] (tyn (.dct [] [])) = false := rfl
      have t2 : tbOf ["dict"] (tyn (.dct [] [])) = true := rfl
      have ve : sVeryD [some (.tag i (.dct [] [])), some (.tag i (.dct [] [])), none] s = .ret (.bl true) s := by
        show (match (if i = i then some (D.dct [] []) else none) with
          | some (.dct ks vs) => if ks.length < sizeLine ∧ ks.all (fun k => match k with | .int _ => true | .str x => !decide (x = (" late " : Str)) | _ => false) = true then Fl.ret (.bl true) s else .stuck
          | _ => .stuck) = _
        rw [if_pos rfl]
        show (if ([] : List D).length < sizeLine ∧ true = true then Fl.ret (.bl true) s else .stuck) = _
        rw [if_pos ⟨by rw [line]; decide, rfl⟩]
      simp only [RUN, tt, t1, t2, ve, RUN2]
  | tup xs => exact atom (hm.resolve_right (fun z => nomatch z)) rfl rfl (.inl rfl)
  | non => exact atom (hm.resolve_right (fun z => nomatch z)) rfl rfl (.inr rfl)
  | bl b => exact atom (hm.resolve_right (fun z => nomatch z)) rfl rfl (.inl rfl)
  | int b => exact atom (hm.resolve_right (fun z => nomatch z)) rfl rfl (.inl rfl)
  | str b => exact atom (hm.resolve_right (fun z => nomatch z)) rfl rfl (.inl rfl)
  | _ => cases hv
end K02
end
section
set_option Elab.async false
set_option linter.all false
set_option maxRecDepth 100000
set_option maxHeartbeats 4000000
namespace K02
open DV PySem
/-! ### refusals met -/
theorem r_lam {i : Nat} {e : DV.Env} {s : S} : xLam i e s = .ok (.lam i []) s := nd rfl
theorem act_ok {i : Nat} {q : S → Out D} {e : DV.Env} {s : S} : xAct 0 i q (some (.lam i []) :: e) s = q s := by
  show (if i = i then q s else .stuck) = _
  rw [if_pos rfl]
theorem met_exc {i c : Nat} {q : S → Out D} {s : S} {y : D} {w : Str} (h : q s = .exc c [y] s) (hl : y.low s.mo.length s.tg = true) (hc : (c = 0 ∧ w = "names") ∨ (c = 1 ∧ w = "lots")) : lowO (runDef 1 2 (m__law_f_met i q) s [.lam i []]) = .ok (.lst [.str w, y]) s := by
  have start : runDef 1 2 (m__law_f_met i q) s [.lam i []] = endDef s (m__law_f_met i q [some (.lam i []), none] s) := run_def rfl
  have hb : sExpr (xAct 0 i q) [some (.lam i []), none] s = .exc c [y] [some (.lam i []), none] s := by
    simp only [RUN, act_ok, h]
  have ht : sTryF 1 [0, 1] [(0, "names", "given"), (1, "lots", "given")] (sExpr (xAct 0 i q)) [some (.lam i []), none] s = .ret (.lst [.str w, y]) s := by
    unfold sTryF
    rw [hb]
    rcases hc with ⟨rfl, rfl⟩ | ⟨rfl, rfl⟩
    · show (if (0 : Nat) ∈ [0, 1] ∧ 1 < [some (D.lam i []), none].length then _ else _) = _
      rw [if_pos ⟨by decide, Nat.lt_succ_self 1⟩]
      rfl
    · show (if (1 : Nat) ∈ [0, 1] ∧ 1 < [some (D.lam i []), none].length then _ else _) = _
      rw [if_pos ⟨by decide, Nat.lt_succ_self 1⟩]
      rfl
  have hl2 : D.lows s.mo.length s.tg [.str w, y] = true := low1 hl
  rw [start]
  unfold m__law_f_met
  simp only [RUN, ht]
  rw [fin_lst hl2, back_self]
  show (if D.lows s.mo.length s.tg [.str w, y] = true then _ else _) = _
  rw [if_pos hl2]
theorem met_let {i : Nat} {q : S → Out D} {s : S} {y : D} (h : q s = .ok y s) : lowO (runDef 1 2 (m__law_f_met i q) s [.lam i []]) = .ok (.lst [.str "let", .non]) s := by
  have start : runDef 1 2 (m__law_f_met i q) s [.lam i []] = endDef s (m__law_f_met i q [some (.lam i []), none] s) := run_def rfl
  have hb : sExpr (xAct 0 i q) [some (.lam i []), none] s = .next [some (.lam i []), none] s := by
    simp only [RUN, act_ok, h]
  have ht : sTryF 1 [0, 1] [(0, "names", "given"), (1, "lots", "given")] (sExpr (xAct 0 i q)) [some (.lam i []), none] s = .next [some (.lam i []), none] s := by
    unfold sTryF
    rw [hb]
  have l2 : ∀ a b : D, decide ([a, b].length ≤ sizeLine) = true := fun _ _ => rfl
  rw [start]
  unfold m__law_f_met
  simp only [RUN, ht, l2]
  rw [fin_lst rfl, back_self]
  rfl
theorem xmet {fbs : Nat → Ex} {fa : Ax} {e : DV.Env} {s : S} {i : Nat} {r : Out D} (hf : fa e s = .ok [.lam i []] s) (h : lowO (runDef 1 2 (m__law_f_met i fun s' => lowO (fbs i e s')) s [.lam i []]) = r) : xMet m__law_f_met 1 2 fbs fa e s = r := by
  unfold xMet
  rw [hf]
  exact h
theorem lowO_exc {s : S} {c : Nat} {y : D} (hl : y.low s.mo.length s.tg = true) : lowO (.exc c [y] s) = .exc c [y] s := by
  show (if D.lows s.mo.length s.tg [y] = true then _ else _) = _
  rw [if_pos (low1 hl)]
theorem lowO_ok {s : S} {y : D} (hl : y.low s.mo.length s.tg = true) : lowO (.ok y s) = .ok y s := if_pos hl
/-! ### a loop over a row, step by step -/
theorem for_c {g : Gx} {body : Sx} {w : Wk} {d : D} {ds : List D} {e e1 e2 : DV.Env} {s s1 s2 : S} (hw : w.same s) (h1 : g d e s = .ok e1 s1) (h2 : body e1 s1 = .next e2 s2) : forRun g body w (d :: ds) e s = forRun g body w ds e2 s2 := by
  rw [forRun, if_pos hw, h1]
  show (body e1 s1).loop _ = _
  rw [h2]
  rfl
theorem for_n {g : Gx} {body : Sx} {w : Wk} {e : DV.Env} {s : S} (hw : w.same s) : forRun g body w [] e s = .next e s := by
  rw [forRun, if_pos hw]
theorem smp_low : ∀ (n : Nat) {v : D} {a b : Nat}, v.smp n = true → v.low a b = true
  | n, v, a, b, h => by
    cases v with
    | non => rfl
    | bl _ => rfl
    | int _ => rfl
    | str _ => rfl
    | lst xs =>
      cases n with
      | zero => cases h
      | succ n =>
        have h : xs.all (D.smp n) = true := h
        exact (low_all xs).mpr fun x hx => smp_low n (List.all_eq_true.mp h x hx)
    | tup xs =>
      cases n with
      | zero => cases h
      | succ n =>
        have h : xs.all (D.smp n) = true := h
        exact (low_all xs).mpr fun x hx => smp_low n (List.all_eq_true.mp h x hx)
    | _ => cases n <;> cases h
/-- a thing that is passed -/
structure Thing (v : D) : Prop where
  val : v.val = true
  smp : v.smp 11 = true ∨ v = .dct [] []
theorem Thing.low {v : D} (h : Thing v) {a b : Nat} : v.low a b = true := by
  rcases h.smp with z | rfl
  · exact smp_low 11 z
  · rfl
theorem Thing.tag {v : D} (h : Thing v) {s : S} {i : Nat} (hi : i < s.tg) : (D.tag i v).low s.mo.length s.tg = true := by
  show (decide (i < s.tg) && v.low s.mo.length s.tg) = true
  rw [decide_eq_true hi, h.low]
  rfl
theorem Thing.strip {v : D} (h : Thing v) {i : Nat} : (D.tag i v).strip = v := val_strip h.val
/-! ### one thing instead of names -/
theorem same_bl {s : S} {b : Bool} : F__law_same s [.lst [.bl b, .bl b], .lst [.bl b, .bl b]] = .ok (.bl true) s := same_ok 11 rfl rfl rfl
theorem call_refused {s : S} {i : Nat} {v : D} {e : DV.Env} (h : Thing v) (hi : i < s.tg) (hn : namesB v = false) (h9 : e[9]? = some (some (.tag i v))) (h14 : (wipeE e [14])[9]? = some (some (.tag i v))) (j : Nat) (hj : j = 0 ∨ j = 1) : lowO (runDef 1 2 (m__law_f_met j fun s' => lowO (fbs_law j e s')) s [.lam j []]) = .ok (.lst [.str "names", .tag i v]) s := by
  refine met_exc (c := 0) ?_ (h.tag hi) (.inl ⟨rfl, rfl⟩)
  rcases hj with rfl | rfl
  · show lowO (fb_law_0 (wipeE e [14]) s) = _
    have x9 : xVar 9 (wipeE e [14]) s = .ok (.tag i v) s := by rw [r_var, h14]
    unfold fb_law_0
    simp only [r_call, r_cons, x9, r_nil, bind_ok, r_C, make_no (s := s) (x := .non) h.strip h.val (h.tag hi) hn]
    exact lowO_exc (h.tag hi)
  · show lowO (fb_law_1 (wipeE e []) s) = _
    have x9 : xVar 9 (wipeE e []) s = .ok (.tag i v) s := by rw [wp_0, r_var, h9]
    unfold fb_law_1
    simp only [r_call, r_cons, x9, r_nil, bind_ok, r_C, are_lots_no (s := s) (x := .non) h.strip h.val (h.tag hi) hn]
    exact lowO_exc (h.tag hi)
theorem law5 {s : S} {i : Nat} {v : D} {c0 c1 c2 c3 c4 c5 c6 c7 c8 c10 c11 c12 c13 c14 c15 c16 c17 c18 : Option D} (h : Thing v) (hi : i < s.tg) :
    ∃ d10 d11 d12 d13 : Option D, B_law_5 [c0, c1, c2, c3, c4, c5, c6, c7, c8, some (.tag i v), c10, c11, c12, c13, c14, c15, c16, c17, c18] s = .next [c0, c1, c2, c3, c4, c5, c6, c7, c8, some (.tag i v), d10, d11, d12, d13, c14, c15, c16, c17, c18] s := by
  have ck : ∀ {F : S → List D → Out D} {d : D}, (if ([] : List D).length = 0 ∧ [d].length = 1 then F s (kwG [0] [] [d]) else .stuck) = F s [d] := rfl
  have l2 : ∀ a b : D, decide ([a, b].length ≤ sizeLine) = true := fun _ _ => rfl
  have v2 : ∀ a b : D, view s (.lst [a, b]) = .lst [a, b] := fun _ _ => rfl
  have w2 : ∀ a b : D, wkD (.lst [a, b]) [a, b] = ⟨[a, b], []⟩ := fun _ _ => rfl
  cases hn : namesB v with
  | true =>
    have b4 : ∀ d11, B_law_4 [c0, c1, c2, c3, c4, c5, c6, c7, c8, some (.tag i v), some (.bl true), d11, c12, c13, c14, c15, c16, c17, c18] s = .next [c0, c1, c2, c3, c4, c5, c6, c7, c8, some (.tag i v), some (.bl true), d11, c12, c13, c14, c15, c16, c17, c18] s := fun d11 => by
      unfold B_law_4
      simp only [RUN, Bool.not_true]
    have run : forRun (gVar 11) B_law_4 ⟨[.lam 0 [], .lam 1 []], []⟩ [.lam 0 [], .lam 1 []] [c0, c1, c2, c3, c4, c5, c6, c7, c8, some (.tag i v), some (.bl true), c11, c12, c13, c14, c15, c16, c17, c18] s = .next [c0, c1, c2, c3, c4, c5, c6, c7, c8, some (.tag i v), some (.bl true), some (.lam 1 []), c12, c13, c14, c15, c16, c17, c18] s := by
      rw [for_c same_nil rfl (b4 (some (.lam 0 []))), for_c same_nil rfl (b4 (some (.lam 1 []))), for_n same_nil]
    refine ⟨some (.bl true), some (.lam 1 []), c12, c13, ?_⟩
    unfold B_law_5
    simp only [RUN, f_names_ok h.strip h.val, hn, are_names_ok h.strip h.val, ck, l2, same_bl, Bool.not_true, r_lam, run]
  | false =>
    have b4 : ∀ (j : Nat) (d12 d13 : Option D), (j = 0 ∨ j = 1) → B_law_4 [c0, c1, c2, c3, c4, c5, c6, c7, c8, some (.tag i v), some (.bl false), some (.lam j []), d12, d13, c14, c15, c16, c17, c18] s = .next [c0, c1, c2, c3, c4, c5, c6, c7, c8, some (.tag i v), some (.bl false), some (.lam j []), some (.str "names"), some (.tag i v), c14, c15, c16, c17, c18] s := fun j d12 d13 hj => by
      have m := xmet (fbs := fbs_law) (fa := aCons (xVar 11) aNil) (e := [c0, c1, c2, c3, c4, c5, c6, c7, c8, some (.tag i v), some (.bl false), some (.lam j []), d12, d13, c14, c15, c16, c17, c18]) (s := s) (i := j) (by simp only [RUN]) (call_refused h hi hn rfl rfl j hj)
      unfold B_law_4
      simp only [RUN, Bool.not_false, m, very_ok h.val h.smp, Bool.not_true, decide_true]
    have run : forRun (gVar 11) B_law_4 ⟨[.lam 0 [], .lam 1 []], []⟩ [.lam 0 [], .lam 1 []] [c0, c1, c2, c3, c4, c5, c6, c7, c8, some (.tag i v), some (.bl false), c11, c12, c13, c14, c15, c16, c17, c18] s = .next [c0, c1, c2, c3, c4, c5, c6, c7, c8, some (.tag i v), some (.bl false), some (.lam 1 []), some (.str "names"), some (.tag i v), c14, c15, c16, c17, c18] s := by
      rw [for_c same_nil rfl (b4 0 c12 c13 (.inl rfl)), for_c same_nil rfl (b4 1 _ _ (.inr rfl)), for_n same_nil]
    refine ⟨some (.bl false), some (.lam 1 []), some (.str "names"), some (.tag i v), ?_⟩
    unfold B_law_5
    simp only [RUN, f_names_ok h.strip h.val, hn, are_names_ok h.strip h.val, ck, l2, same_bl, Bool.not_true, r_lam, run]
end K02
end
section
set_option Elab.async false
set_option linter.all false
set_option maxRecDepth 100000
set_option maxHeartbeats 4000000
namespace K02
open DV PySem
/-! ### names that are let -/
theorem letter_in {c : Nat} (h : letterC c) : c ∈ ("abcdefghijklmnopqrstuvwxyz" : Str).cps.toList := by
  have e : ("abcdefghijklmnopqrstuvwxyz" : Str).cps.toList = [97, 98, 99, 100, 101, 102, 103, 104, 105, 106, 107, 108, 109, 110, 111, 112, 113, 114, 115, 116, 117, 118, 119, 120, 121, 122] := by decide +kernel
  rw [e]
  unfold letterC at h
  simp only [List.mem_cons, List.mem_nil_iff, or_false]
  omega
theorem sign_in {c : Nat} (h : signC c) : c ∈ ("abcdefghijklmnopqrstuvwxyz0123456789" : Str).cps.toList := by
  have e : ("abcdefghijklmnopqrstuvwxyz0123456789" : Str).cps.toList = [97, 98, 99, 100, 101, 102, 103, 104, 105, 106, 107, 108, 109, 110, 111, 112, 113, 114, 115, 116, 117, 118, 119, 120, 121, 122, 48, 49, 50, 51, 52, 53, 54, 55, 56, 57] := by decide +kernel
  rw [e]
  unfold signC letterC at h
  simp only [List.mem_cons, List.mem_nil_iff, or_false]
  omega
theorem good_of {z : Str} (h : NmL 6 z) : goodS z = true := by
  obtain ⟨c, r, e, h1, h2, h3⟩ := h
  have hl : z.length = r.length + 1 := by rw [len_list, e, List.length_cons]
  unfold goodS
  rw [e, decide_eq_true (show 1 ≤ z.length by omega), decide_eq_true (show z.length ≤ 8 by omega)]
  show (true && (true && (decide (c ∈ ("abcdefghijklmnopqrstuvwxyz" : Str).cps.toList) && _))) = true
  rw [decide_eq_true (letter_in h1), Bool.true_and, Bool.true_and, Bool.true_and, List.all_eq_true]
  intro d hd
  refine decide_eq_true (sign_in ?_)
  rcases List.mem_cons.mp hd with rfl | hd
  · exact .inl h1
  · exact h2 d hd
theorem keys_strs {nm : List Str} (nd : nm.Nodup) : (keysOf ((nm.map D.str).map keyOfD)).length = nm.length := by
  have e : (nm.map D.str).map keyOfD = nm.map strK := by
    rw [List.map_map]
    rfl
  have q : keysOf (nm.map strK) = nm.map strK := keys_nodup (nm.map strK) [] (by
    rw [List.nil_append]
    exact List.Pairwise.map _ (fun a b hab z => hab (Sum.inr.inj z)) nd)
  rw [e, q, List.length_map]
theorem names_lst {n : Nat} {nm : List Str} {ls : List (List Str)} (h : Drawn n nm ls) (h1 : 1 ≤ n) (h8 : n ≤ 8) {v : D} (hs : seqOf v = some (nm.map D.str)) : namesB v = true := by
  unfold namesB
  rw [hs]
  show (decide (1 ≤ (nm.map D.str).length) && (decide ((nm.map D.str).length ≤ 8) && ((nm.map D.str).all nameB && decide ((keysOf ((nm.map D.str).map keyOfD)).length = (nm.map D.str).length)))) = true
  rw [List.length_map, h.len, decide_eq_true h1, decide_eq_true h8, Bool.true_and, Bool.true_and, keys_strs h.nd, h.len, decide_eq_true rfl, Bool.and_true, List.all_map, List.all_eq_true]
  exact fun x hx => good_of (h.good x hx)
theorem strs_vals {nm : List Str} (h : ∀ x ∈ nm, x.length ≤ 1000000) : D.vals (nm.map D.str) = true := by
  rw [vals_all]
  intro x hx
  obtain ⟨z, hz, rfl⟩ := List.mem_map.mp hx
  exact decide_eq_true (h z hz)
theorem val_lst {xs : List D} (h1 : xs.length ≤ 1000000) (h2 : D.vals xs = true) : (D.lst xs).val = true := by
  show (decide (xs.length ≤ 1000000) && D.vals xs) = true
  rw [h2, decide_eq_true h1]
  rfl
theorem val_tup {xs : List D} (h1 : xs.length ≤ 1000000) (h2 : D.vals xs = true) : (D.tup xs).val = true := by
  show (decide (xs.length ≤ 1000000) && D.vals xs) = true
  rw [h2, decide_eq_true h1]
  rfl
theorem Drawn.vals {n : Nat} {nm : List Str} {ls : List (List Str)} (h : Drawn n nm ls) : D.vals (nm.map D.str) = true := strs_vals fun x hx => by
  have := (h.good x hx).len
  omega
/-! ### one thing instead of lots -/
theorem law8 {s : S} {n i : Nat} {v : D} {nm : List Str} {ls : List (List Str)} {c0 c1 c2 c4 c5 c6 c7 c8 c10 c11 c12 c13 c14 c15 c16 c17 c18 : Option D} (h : Thing v) (hi : i < s.tg) (dr : Drawn n nm ls) (h1 : 1 ≤ n) (h8 : n ≤ 8) :
    ∃ d10 d11 d12 d13 : Option D, B_law_8 [c0, c1, c2, some (.lst (nm.map D.str)), c4, c5, c6, c7, c8, some (.tag i v), c10, c11, c12, c13, c14, c15, c16, c17, c18] s = .next [c0, c1, c2, some (.lst (nm.map D.str)), c4, c5, c6, c7, c8, some (.tag i v), d10, d11, d12, d13, c14, c15, c16, c17, c18] s := by
  have ck : ∀ {F : S → List D → Out D} {d x : D}, (if ([] : List D).length = 0 ∧ [d, x].length = 2 then F s (kwG [1, 0] [] [d, x]) else .stuck) = F s [x, d] := rfl
  have l2 : ∀ a b : D, decide ([a, b].length ≤ sizeLine) = true := fun _ _ => rfl
  have ml : (nm.map D.str).length ≤ 1000000 := by rw [List.length_map, dr.len]; omega
  have nv : (D.lst (nm.map D.str)).val = true := val_lst ml dr.vals
  have tv : (D.tup (nm.map D.str)).val = true := val_tup ml dr.vals
  have nn := names_lst dr h1 h8 (v := .lst (nm.map D.str)) rfl
  have tn := names_lst dr h1 h8 (v := .tup (nm.map D.str)) rfl
  have e1 : F_are_lots s [.lst (nm.map D.str), .tag i v] = .ok (.bl (lotsB nm v)) s := are_lots_ok rfl nv nn rfl h.strip h.val
  have e2 : F_are_lots s [.tup (nm.map D.str), .tag i v] = .ok (.bl (lotsB nm v)) s := are_lots_ok rfl tv tn rfl h.strip h.val
  have e0 := f_lots_ok (s := s) (nm := nm) (h.strip (i := i)) h.val
  have la : DV.view s (.lst [.lam 2 [], .lam 3 []]) = .lst [.lam 2 [], .lam 3 []] := rfl
  cases hb : lotsB nm v with
  | true =>
    rw [hb] at e0 e1 e2
    obtain ⟨ks, mk⟩ := make_ok (s := s) (d := .lst (nm.map D.str)) rfl nv nn (h.strip (i := i)) h.val hb
    have low : (D.inst 2 [.lst ((sortS nm).map D.str), .lst (ks.map D.int)]).low s.mo.length s.tg = true := by
      show (D.lows _ _ ((sortS nm).map D.str) && (D.lows _ _ (ks.map D.int) && true)) = true
      rw [lows_map fun _ _ => rfl, lows_map fun _ _ => rfl]
      rfl
    have q : ∀ (j : Nat) (d10 d12 d13 : Option D), (j = 2 ∨ j = 3) → lowO (fbs_law j [c0, c1, c2, some (.lst (nm.map D.str)), c4, c5, c6, c7, c8, some (.tag i v), d10, c11, d12, d13, c14, c15, c16, c17, c18] s) = .ok (.inst 2 [.lst ((sortS nm).map D.str), .lst (ks.map D.int)]) s := fun j d10 d12 d13 hj => by
      rcases hj with rfl | rfl
      · show lowO (fb_law_2 (wipeE _ []) s) = _
        unfold fb_law_2
        simp only [RUN, mk]
        exact lowO_ok low
      · show lowO (fb_law_3 (wipeE _ []) s) = _
        unfold fb_law_3
        simp only [RUN, ck, mk]
        exact lowO_ok low
    have m2 := xmet (fbs := fbs_law) (fa := aCons (xLam 2) aNil) (e := [c0, c1, c2, some (.lst (nm.map D.str)), c4, c5, c6, c7, c8, some (.tag i v), some (.bl true), c11, c12, c13, c14, c15, c16, c17, c18]) (s := s) (i := 2) (by simp only [RUN, r_lam]) (met_let (q _ _ _ _ (.inl rfl)))
    have m3 := xmet (fbs := fbs_law) (fa := aCons (xLam 3) aNil) (e := [c0, c1, c2, some (.lst (nm.map D.str)), c4, c5, c6, c7, c8, some (.tag i v), some (.bl true), c11, some (.str "let"), some .non, c14, c15, c16, c17, c18]) (s := s) (i := 3) (by simp only [RUN, r_lam]) (met_let (q _ _ _ _ (.inr rfl)))
    refine ⟨some (.bl true), c11, some (.str "let"), some .non, ?_⟩
    unfold B_law_8
    simp only [RUN, e0, e1, e2, ck, l2, same_bl, Bool.not_true, m2, decide_true, m3, at0]
  | false =>
    rw [hb] at e0 e1 e2
    have mk := make_lots_no (s := s) (d := .lst (nm.map D.str)) rfl nv nn (h.strip (i := i)) h.val (h.tag hi) hb
    have q : ∀ (j : Nat) (d10 d12 d13 : Option D), (j = 2 ∨ j = 3) → lowO (fbs_law j [c0, c1, c2, some (.lst (nm.map D.str)), c4, c5, c6, c7, c8, some (.tag i v), d10, c11, d12, d13, c14, c15, c16, c17, c18] s) = .exc 1 [.tag i v] s := fun j d10 d12 d13 hj => by
      rcases hj with rfl | rfl
      · show lowO (fb_law_2 (wipeE _ []) s) = _
        unfold fb_law_2
        simp only [RUN, mk]
        exact lowO_exc (h.tag hi)
      · show lowO (fb_law_3 (wipeE _ []) s) = _
        unfold fb_law_3
        simp only [RUN, ck, mk]
        exact lowO_exc (h.tag hi)
    have m2 := xmet (fbs := fbs_law) (fa := aCons (xLam 2) aNil) (e := [c0, c1, c2, some (.lst (nm.map D.str)), c4, c5, c6, c7, c8, some (.tag i v), some (.bl false), c11, c12, c13, c14, c15, c16, c17, c18]) (s := s) (i := 2) (by simp only [RUN, r_lam]) (met_exc (w := "lots") (q _ _ _ _ (.inl rfl)) (h.tag hi) (.inr ⟨rfl, rfl⟩))
    have m3 := xmet (fbs := fbs_law) (fa := aCons (xLam 3) aNil) (e := [c0, c1, c2, some (.lst (nm.map D.str)), c4, c5, c6, c7, c8, some (.tag i v), some (.bl false), c11, some (.str "lots"), some (.tag i v), c14, c15, c16, c17, c18]) (s := s) (i := 3) (by simp only [RUN, r_lam]) (met_exc (w := "lots") (q _ _ _ _ (.inr rfl)) (h.tag hi) (.inr ⟨rfl, rfl⟩))
    have nl : decide (("lots" : Str) = ("let" : Str)) = false := by decide
    refine ⟨some (.bl false), c11, some (.str "lots"), some (.tag i v), ?_⟩
    unfold B_law_8
    simp only [RUN, e0, e1, e2, ck, l2, same_bl, Bool.not_true, Bool.not_false, m2, decide_true, m3, at0, nl, very_ok h.val h.smp]
end K02
end
section
set_option Elab.async false
set_option linter.all false
set_option maxRecDepth 100000
set_option maxHeartbeats 4000000
namespace K02
open DV PySem
/-! ### the things that are passed -/
/-- a part of a thing -/
structure El (x : D) : Prop where
  val : x.val = true
  smp : x.smp 10 = true
theorem thing_lst {xs : List D} (hl : xs.length ≤ 1000000) (h : ∀ x ∈ xs, El x) : Thing (.lst xs) := ⟨val_lst hl (vals_all.mpr fun x hx => (h x hx).val), .inl (List.all_eq_true.mpr fun x hx => (h x hx).smp)⟩
theorem thing_tup {xs : List D} (hl : xs.length ≤ 1000000) (h : ∀ x ∈ xs, El x) : Thing (.tup xs) := ⟨val_tup hl (vals_all.mpr fun x hx => (h x hx).val), .inl (List.all_eq_true.mpr fun x hx => (h x hx).smp)⟩
theorem thing_str {z : Str} (h : z.length ≤ 1000000) : Thing (.str z) := ⟨decide_eq_true h, .inl rfl⟩
theorem el_str {z : Str} (h : z.length ≤ 1000000) : El (.str z) := ⟨decide_eq_true h, rfl⟩
theorem el_strs {nm : List Str} (h : ∀ x ∈ nm, x.length ≤ 1000000) : ∀ x ∈ nm.map D.str, El x := fun x hx => by
  obtain ⟨z, hz, rfl⟩ := List.mem_map.mp hx
  exact el_str (h z hz)
theorem el_lst {zs : List Str} (hl : zs.length ≤ 1000000) (h : ∀ x ∈ zs, x.length ≤ 1000000) : El (.lst (zs.map D.str)) := ⟨val_lst (by rw [List.length_map]; exact hl) (strs_vals h), by
  show (zs.map D.str).all (D.smp 9) = true
  rw [List.all_map, List.all_eq_true]
  exact fun x hx => rfl⟩
theorem el_tup {zs : List Str} (hl : zs.length ≤ 1000000) (h : ∀ x ∈ zs, x.length ≤ 1000000) : El (.tup (zs.map D.str)) := ⟨val_tup (by rw [List.length_map]; exact hl) (strs_vals h), by
  show (zs.map D.str).all (D.smp 9) = true
  rw [List.all_map, List.all_eq_true]
  exact fun x hx => rfl⟩
theorem things_low {xs : List D} (h : ∀ x ∈ xs, Thing x) {a b : Nat} : D.lows a b xs = true := (low_all xs).mpr fun x hx => (h x hx).low
def nS (i : Nat) : Str := ("n" : Str) ++ Str.ofString (toString ((0 : Int) + ((i : Nat) : Int)))
theorem nS_len : ∀ i < 10, (nS i).length ≤ 30 := by decide +kernel
theorem nS_len2 : ∀ i < 10, (Str.ofString (toString ((0 : Int) + ((i : Nat) : Int)))).length ≤ 30 := by decide +kernel
theorem gStr_small {s : S} {z : Int} (h : z.natAbs < 2 ^ 60) : gStr s (.int z) = some (.str (toString z)) := if_pos (Nat.lt_trans (log2_lt h (by decide)) (by decide))
theorem comp9 {a : Ax} {E : Ex} {s : S} {m : Nat} {c0 c1 c2 c3 c4 c5 c6 c7 c8 c9 c10 c11 c12 c13 c14 c15 c16 c17 c18 : Option D} (hE : E = xBin gAdd (xC (.str "n")) (xCall (noX (f1 gStr)) (aCons (xVar 18) aNil)))
    (ha : a [c0, c1, c2, c3, c4, c5, c6, c7, c8, c9, c10, c11, c12, c13, c14, c15, c16, c17, c18] s = .ok [.int (m : Int)] s) (hm : m ≤ 9) : aComp (ixRng1 a) (.one 18) tAll E [18] [c0, c1, c2, c3, c4, c5, c6, c7, c8, c9, c10, c11, c12, c13, c14, c15, c16, c17, c18] s = .ok (((List.range m).map nS).map D.str) s := by
  refine aComp_mapE (List.range m) (fun i => D.int ((0 : Int) + (i : Int))) nS D.str (rng1 ha (by omega)) (by rw [List.length_range, line]; omega) fun i hi => ⟨_, rfl, ?_⟩
  have hi := List.mem_range.mp hi
  have g := gStr_small (s := s) (z := (0 : Int) + (i : Int)) (by omega)
  have l := nS_len2 i (by omega)
  have ad := o_addS (s := s) (x := ("n" : Str)) (y := Str.ofString (toString ((0 : Int) + (i : Int)))) (by
    have : ("n" : Str).length = 1 := by decide +kernel
    rw [line]
    omega)
  rw [hE]
  simp only [RUN, g, ad]
  rfl
theorem el_nS {m : Nat} (hm : m ≤ 9) : ∀ z ∈ (List.range m).map nS, z.length ≤ 1000000 := fun z hz => by
  obtain ⟨i, hi, rfl⟩ := List.mem_map.mp hz
  have := nS_len i (by have := List.mem_range.mp hi; omega)
  omega
theorem all_c {α : Type} {p : α → Prop} {x : α} {xs : List α} (h : p x) (h2 : ∀ y ∈ xs, p y) : ∀ y ∈ x :: xs, p y := fun y hy => by
  rcases List.mem_cons.mp hy with rfl | hy
  · exact h
  · exact h2 y hy
theorem all_n {α : Type} {p : α → Prop} : ∀ y ∈ ([] : List α), p y := fun y hy => (by cases hy)
theorem all_a {α : Type} {p : α → Prop} {xs ys : List α} (h : ∀ y ∈ xs, p y) (h2 : ∀ y ∈ ys, p y) : ∀ y ∈ xs ++ ys, p y := fun y hy => by
  rcases List.mem_append.mp hy with hy | hy
  · exact h y hy
  · exact h2 y hy
theorem all_cut {p : D → Prop} {xs : List D} {a b : Option Int} (h : ∀ y ∈ xs, p y) : ∀ y ∈ cutL xs a b, p y := fun y hy => h y (cut_mem hy)
/-- a list of things that changes -/
def Fnd (t : S) (j k : Nat) : Prop := ∃ xs, t.mo[j]? = some (.lst xs) ∧ (∀ x ∈ xs, Thing x) ∧ xs.length ≤ k
/-- a loop that puts things to a list -/
theorem loop_put {body : Sx} {j b : Nat} {ds : List D} {s : S} {en : D → Option D → DV.Env} {g : Gx} {c : Option D} (f : Fnd s j b)
    (hg : ∀ d z t, g d (en (.ref j) z) t = .ok (en (.ref j) (some d)) t)
    (st : ∀ (d : D) (t : S) (xs : List D), d ∈ ds → t.mo[j]? = some (.lst xs) → xs.length < sizeLine → ∃ y, Thing y ∧ body (en (.ref j) (some d)) t = .next (en (.ref j) (some d)) (t.put j (.lst (xs ++ [y])))) (hb : b + ds.length < 100000) :
    ∃ c' o, forRun g body ⟨ds, []⟩ ds (en (.ref j) c) s = .next (en (.ref j) c') (s.put j o) ∧ Fnd (s.put j o) j (b + ds.length) := by
  obtain ⟨xs0, f1, f2, f3⟩ := f
  obtain ⟨e', t', run, c', xs, he, ht, _, hx, hl⟩ := for_run (g := g) (body := body) (w := ⟨ds, []⟩) (e := en (.ref j) c) (s := s) (ds := ds)
    (fun ds' e t => ∃ c' xs, e = en (.ref j) c' ∧ t = s.put j (.lst xs) ∧ (∀ d ∈ ds', d ∈ ds) ∧ (∀ x ∈ xs, Thing x) ∧ xs.length + ds'.length ≤ b + ds.length)
    ⟨c, xs0, rfl, by
      have e : s.mo.set j (.lst xs0) = s.mo := by
        refine List.ext_getElem? fun i => ?_
        rw [List.getElem?_set]
        split
        · rename_i e
          subst e
          rw [if_pos (mo_lt f1), f1]
        · rfl
      show s = (⟨s.mo.set j (.lst xs0), s.tg⟩ : S)
      rw [e], fun d hd => hd, f2, by omega⟩ (fun _ _ _ _ => same_nil) (by
      rintro d ds' e t ⟨c', xs, rfl, rfl, h1, h2, h3⟩
      rw [List.length_cons] at h3
      obtain ⟨y, hy, hb2⟩ := st d (s.put j (.lst xs)) xs (h1 d List.mem_cons_self) (put_get f1) (by rw [line]; omega)
      exact ⟨_, _, hg _ _ _, _, _, hb2, some d, xs ++ [y], rfl, put_put, fun z hz => h1 z (List.mem_cons_of_mem _ hz), all_a h2 (all_c hy all_n), by rw [List.length_append, List.length_singleton]; omega⟩)
  subst he
  subst ht
  exact ⟨c', .lst xs, run, xs, put_get f1, hx, by simpa using hl⟩
end K02
end
section
set_option Elab.async false
set_option linter.all false
set_option maxRecDepth 100000
set_option maxHeartbeats 8000000
namespace K02
open DV PySem
theorem seq_ok {f g : Sx} {e e1 : DV.Env} {s s1 : S} {r : Fl} (h1 : f e s = .next e1 s1) (h2 : g e1 s1 = r) : sSeq f g e s = r := by
  rw [r_seq, h1, then_next, h2]
theorem cat_ok {fa fb : Ex} {e : DV.Env} {s : S} {x y : D} {xs ys : List D} (ha : fa e s = .ok x s) (hb : fb e s = .ok y s) (hx : DV.view s x = .lst xs) (hy : DV.view s y = .lst ys) (hl : xs.length + ys.length ≤ sizeLine) : aCat fa fb e s = .ok (xs ++ ys) s := by
  show (fa e s).bind _ = _
  rw [ha, bind_ok, hb, bind_ok, hx, hy]
  exact if_pos hl
theorem loop_tag {body : Sx} {j : Nat} {xs : List D} {s : S} {en : Option D → Option D → Option D → Option D → Option D → DV.Env} {c9 c10 c11 c12 c13 : Option D} (hj : s.mo[j]? = some (.lst xs)) (hx : ∀ x ∈ xs, Thing x)
    (hg : ∀ d t c9 c10 c11 c12 c13, gTag 9 d (en c9 c10 c11 c12 c13) t = .ok (en (some (.tag t.tg d)) c10 c11 c12 c13) ⟨t.mo, t.tg + 1⟩)
    (st : ∀ (v : D) (i : Nat) (t : S) (c10 c11 c12 c13 : Option D), Thing v → i < t.tg → ∃ d10 d11 d12 d13, body (en (some (.tag i v)) c10 c11 c12 c13) t = .next (en (some (.tag i v)) d10 d11 d12 d13) t) :
    ∃ g d9 d10 d11 d12 d13, forRun (gTag 9) body ⟨xs, [(j, xs)]⟩ xs (en c9 c10 c11 c12 c13) s = .next (en d9 d10 d11 d12 d13) ⟨s.mo, g⟩ := by
  obtain ⟨e', t', run, hmo, _, c9', c10', c11', c12', c13', he⟩ := for_run (g := gTag 9) (body := body) (w := ⟨xs, [(j, xs)]⟩) (e := en c9 c10 c11 c12 c13) (s := s) (ds := xs)
    (fun ds e t => t.mo = s.mo ∧ (∀ d ∈ ds, d ∈ xs) ∧ ∃ c9 c10 c11 c12 c13, e = en c9 c10 c11 c12 c13) ⟨rfl, fun _ h => h, c9, c10, c11, c12, c13, rfl⟩ (fun ds e t h p hp => by
      rw [List.mem_singleton.mp hp, h.1]
      exact hj) (by
      rintro d ds e t ⟨h1, h2, c9, c10, c11, c12, c13, rfl⟩
      obtain ⟨d10, d11, d12, d13, q⟩ := st d t.tg ⟨t.mo, t.tg + 1⟩ c10 c11 c12 c13 (hx d (h2 d List.mem_cons_self)) (Nat.lt_succ_self _)
      exact ⟨_, _, hg _ _ _ _ _ _ _, _, _, q, h1, fun z hz => h2 z (List.mem_cons_of_mem _ hz), _, _, _, _, _, rfl⟩)
  subst he
  have : t' = ⟨s.mo, t'.tg⟩ := by
    rw [← hmo]
  exact ⟨t'.tg, c9', c10', c11', c12', c13', by rw [run, ← this]⟩
theorem sl_lst {xs : List D} {lo hi : Option Int} : sliceD (.lst xs) lo hi = some (.lst (cutL xs lo hi)) := nd rfl
/-- a row with one part put to it or in the place of another -/
theorem put_row {t : S} {xs : List D} {x : D} {a b : Option Int} (hl : xs.length ≤ 10000) (hx : ∀ y ∈ xs, El y) (h : El x) :
    gAdd t (.lst (cutL xs none a)) (.lst [x]) = some (.lst (cutL xs none a ++ [x])) ∧ gAdd t (.lst (cutL xs none a ++ [x])) (.lst (cutL xs b none)) = some (.lst (cutL xs none a ++ [x] ++ cutL xs b none)) ∧ Thing (.lst (cutL xs none a ++ [x] ++ cutL xs b none)) := by
  have l1 : (cutL xs none a).length ≤ xs.length := cut_len
  have l2 : (cutL xs b none).length ≤ xs.length := cut_len
  refine ⟨o_catL (by rw [List.length_singleton, line]; omega), o_catL (by rw [List.length_append, List.length_singleton, line]; omega), thing_lst (by rw [List.length_append, List.length_append, List.length_singleton]; omega) (all_a (all_a (all_cut hx) (all_c h all_n)) (all_cut hx))⟩
theorem put3 {t : S} {j a : Nat} {x : D} {xs ys : List D} {c0 c1 c2 c4 c6 c9 c10 c11 c12 c13 c14 c15 c16 c17 c18 : Option D} (hj : t.mo[j]? = some (.lst ys)) (hy : ys.length < sizeLine) (hl : xs.length ≤ 10000) (hx : ∀ y ∈ xs, El y) (h : El x) :
    ∃ y, Thing y ∧ B_law_3 [c0, c1, c2, some (.lst xs), c4, some (.int (a : Int)), c6, some (.ref j), some x, c9, c10, c11, c12, c13, c14, c15, c16, c17, c18] t = .next [c0, c1, c2, some (.lst xs), c4, some (.int (a : Int)), c6, some (.ref j), some x, c9, c10, c11, c12, c13, c14, c15, c16, c17, c18] (t.put j (.lst (ys ++ [y]))) := by
  obtain ⟨p1, p2, p3⟩ := put_row (t := t) (a := some (a : Int)) (b := some ((a : Int) + 1)) hl hx h
  refine ⟨_, p3, ?_⟩
  have l1 : ∀ a : D, decide ([a].length ≤ sizeLine) = true := fun _ => rfl
  unfold B_law_3
  simp only [RUN, sl_lst, l1, p1, p2, isLst_refL hj, append_ref hj hy p3.low]
theorem put7 {t : S} {j a : Nat} {x : D} {xs ys : List D} {c0 c1 c2 c3 c5 c8 c9 c10 c11 c12 c13 c14 c15 c17 c18 : Option D} (hj : t.mo[j]? = some (.lst ys)) (hy : ys.length < sizeLine) (hl : xs.length ≤ 10000) (hx : ∀ y ∈ xs, El y) (h : El x) :
    ∃ y, Thing y ∧ B_law_7 [c0, c1, c2, c3, some (.lst xs), c5, some (.int (a : Int)), some (.ref j), c8, c9, c10, c11, c12, c13, c14, c15, some x, c17, c18] t = .next [c0, c1, c2, c3, some (.lst xs), c5, some (.int (a : Int)), some (.ref j), c8, c9, c10, c11, c12, c13, c14, c15, some x, c17, c18] (t.put j (.lst (ys ++ [y]))) := by
  obtain ⟨p1, p2, p3⟩ := put_row (t := t) (a := some (a : Int)) (b := some (a : Int)) hl hx h
  refine ⟨_, p3, ?_⟩
  have l1 : ∀ a : D, decide ([a].length ≤ sizeLine) = true := fun _ => rfl
  unfold B_law_7
  simp only [RUN, sl_lst, l1, p1, p2, isLst_refL hj, append_ref hj hy p3.low]
end K02
end
section
set_option Elab.async false
set_option linter.all false
set_option maxRecDepth 100000
set_option maxHeartbeats 8000000
namespace K02
open DV PySem
/-! ### the first part of a turn: names -/
theorem names_part {s : S} {n a : Nat} {nm : List Str} {ls : List (List Str)} {c0 c1 c2 c4 c6 c7 c8 c9 c10 c11 c12 c13 c14 c15 c16 c17 c18 : Option D} (dr : Drawn n nm ls) (h8 : n ≤ 8) (ha : a < n) :
    ∃ (j : Nat) (s' : S) (xs : List D), s.mo.length ≤ j ∧ s'.mo[j]? = some (.lst xs) ∧ (∀ x ∈ xs, Thing x) ∧ xs.length ≤ 20 ∧ (∀ k, k < s.mo.length → s'.mo[k]? = s.mo[k]?) ∧ s'.tg = s.tg ∧ ∀ (g : Sx) (r : Fl), g [c0, c1, c2, some (.lst (nm.map D.str)), c4, some (.int (a : Int)), c6, some (.ref j), c8, c9, c10, c11, c12, c13, c14, c15, c16, c17, c18] s' = r →
    sSeq (sAsg (xOwn (aLst (aCons (xFz (aCallN (fn1 gList) (aCons (xVar 3) aNil))) (aCons (xCall (noX (f1 gTuple)) (aCons (xVar 3) aNil)) (aCons (xFz (aLst aNil)) (aCons (xC .non) (aCons (xC (.int 0)) (aCons (xC (.str "")) (aCons (xC (.str "abc")) (aCons xD0 (aCons (xBin gAdd (xVar 3) (xFz (aLst (aCons (xBin gIx (xVar 3) (xVar 5)) aNil)))) (aCons (xBin gAdd (xVar 3) (xFz (aComp (ixRng1 (aCons (xC (.int 9)) aNil)) (.one 18) tAll E_law_0 [18]))) aNil)))))))))))) (gVar 7))
     (sSeq (sAsg (xOwn (aCat (xVar 7) (xFz (aComp (ixSeq (xFz (aLst (aCons (xC (.int 8)) (aCons (xC (.int 9)) aNil))))) (.one 17) tAll E_law_2 [17])))) (gVar 7)) g) [c0, c1, c2, some (.lst (nm.map D.str)), c4, some (.int (a : Int)), c6, c7, c8, c9, c10, c11, c12, c13, c14, c15, c16, c17, c18] s = r := by
  have ml : (nm.map D.str).length = n := by rw [List.length_map, dr.len]
  have gs : ∀ x ∈ nm, x.length ≤ 1000000 := fun x hx => by
    have := (dr.good x hx).len
    omega
  have el := el_strs gs
  have at1 : gIx s (.lst (nm.map D.str)) (.int (a : Int)) = some (.str (nm.getD a ⟨#[]⟩)) := names_at dr.len ha
  have at2 : L2.atI (nm.map D.str) (a : Int) = some (.str (nm.getD a ⟨#[]⟩)) := at1
  have hz : (nm.getD a ⟨#[]⟩) ∈ nm := by
    rw [List.getD_eq_getElem?_getD, List.getElem?_eq_getElem (by rw [dr.len]; exact ha)]
    exact List.getElem_mem _
  generalize nm.getD a ⟨#[]⟩ = z at at1 at2 hz
  have ez : El (.str z) := el_str (gs z hz)
  have cm : aComp (ixRng1 (aCons (xC (.int 9)) aNil)) (.one 18) tAll E_law_0 [18] [c0, c1, c2, some (.lst (nm.map D.str)), c4, some (.int (a : Int)), c6, c7, c8, c9, c10, c11, c12, c13, c14, c15, c16, c17, c18] s = .ok (((List.range 9).map nS).map D.str) s := comp9 rfl rfl (by omega)
  have el9 := el_strs (el_nS (m := 9) (by omega))
  have a1 : gAdd s (.lst (nm.map D.str)) (.lst [.str z]) = some (.lst (nm.map D.str ++ [.str z])) := o_catL (by rw [ml, List.length_singleton, line]; omega)
  have a2 : gAdd s (.lst (nm.map D.str)) (.lst (((List.range 9).map nS).map D.str)) = some (.lst (nm.map D.str ++ ((List.range 9).map nS).map D.str)) := o_catL (by rw [ml, List.length_map, List.length_map, List.length_range, line]; omega)
  have th : ∀ x ∈ [D.lst (nm.map D.str), .tup (nm.map D.str), .lst [], .non, .int 0, .str "", .str "abc", .dct [] [], .lst (nm.map D.str ++ [.str z]), .lst (nm.map D.str ++ ((List.range 9).map nS).map D.str)], Thing x :=
    all_c (thing_lst (by omega) el) (all_c (thing_tup (by omega) el) (all_c ⟨rfl, .inl rfl⟩ (all_c ⟨rfl, .inl rfl⟩ (all_c ⟨rfl, .inl rfl⟩ (all_c (thing_str (by decide +kernel)) (all_c (thing_str (by decide +kernel)) (all_c ⟨rfl, .inr rfl⟩ (all_c (thing_lst (by rw [List.length_append, ml, List.length_singleton]; omega) (all_a el (all_c ez all_n))) (all_c (thing_lst (by rw [List.length_append, ml, List.length_map, List.length_map, List.length_range]; omega) (all_a el el9)) all_n)))))))))
  have low := things_low th (a := 0) (b := 0)
  have l10 : ∀ a b c d e f g h i j : D, decide ([a, b, c, d, e, f, g, h, i, j].length ≤ sizeLine) = true := fun _ _ _ _ _ _ _ _ _ _ => rfl
  have l1 : ∀ a : D, decide ([a].length ≤ sizeLine) = true := fun _ => rfl
  have l0 : decide (([] : List D).length ≤ sizeLine) = true := rfl
  have l2 : ∀ a b : D, decide ([a, b].length ≤ sizeLine) = true := fun _ _ => rfl
  generalize hL : [D.lst (nm.map D.str), .tup (nm.map D.str), .lst [], .non, .int 0, .str "", .str "abc", .dct [] [], .lst (nm.map D.str ++ [.str z]), .lst (nm.map D.str ++ ((List.range 9).map nS).map D.str)] = L at th low
  have lL : L.length = 10 := by rw [← hL]; rfl
  have lLd : decide (L.length ≤ sizeLine) = true := by
    rw [lL]
    rfl
  have o1 : (s.own (.lst L)).mo[s.mo.length]? = some (.lst L) := own_get
  have cm2 : aComp (ixSeq (xFz (aLst (aCons (xC (.int 8)) (aCons (xC (.int 9)) aNil))))) (.one 17) tAll E_law_2 [17] [c0, c1, c2, some (.lst (nm.map D.str)), c4, some (.int (a : Int)), c6, some (.ref s.mo.length), c8, c9, c10, c11, c12, c13, c14, c15, c16, c17, c18] (s.own (.lst L)) = .ok (([8, 9].map fun m : Nat => ((List.range m).map nS).map D.str).map D.lst) (s.own (.lst L)) := by
    refine aComp_mapE [8, 9] (fun m : Nat => D.int (m : Int)) (fun m : Nat => ((List.range m).map nS).map D.str) D.lst (by simp only [RUN, l2]; rfl) (by decide) fun m hm => ⟨_, rfl, ?_⟩
    have hm9 : m ≤ 9 := by
      simp only [List.mem_cons, List.mem_nil_iff, or_false] at hm
      omega
    have c := comp9 (a := aCons (xVar 17) aNil) (E := E_law_1) (s := s.own (.lst L)) (m := m) (c0 := c0) (c1 := c1) (c2 := c2) (c3 := some (.lst (nm.map D.str))) (c4 := c4) (c5 := some (.int (a : Int))) (c6 := c6) (c7 := some (.ref s.mo.length)) (c8 := c8) (c9 := c9) (c10 := c10) (c11 := c11) (c12 := c12) (c13 := c13) (c14 := c14) (c15 := c15) (c16 := c16) (c17 := some (.int (m : Int))) (c18 := c18) rfl (by simp only [RUN]) hm9
    unfold E_law_2
    simp only [RUN]
    rw [show aComp (ixRng1 (aCons (xVar 17) aNil)) (CT.one 18) tAll E_law_1 [18] _ (s.own (.lst L)) = _ from c]
    rfl
  let M : List D := ([8, 9].map fun m : Nat => ((List.range m).map nS).map D.str).map D.lst
  have thM : ∀ x ∈ M, Thing x := all_c (thing_lst (by decide) (el_strs (el_nS (by omega)))) (all_c (thing_lst (by decide) (el_strs (el_nS (by omega)))) all_n)
  have ct : aCat (xVar 7) (xFz (aComp (ixSeq (xFz (aLst (aCons (xC (.int 8)) (aCons (xC (.int 9)) aNil))))) (.one 17) tAll E_law_2 [17])) [c0, c1, c2, some (.lst (nm.map D.str)), c4, some (.int (a : Int)), c6, some (.ref s.mo.length), c8, c9, c10, c11, c12, c13, c14, c15, c16, c17, c18] (s.own (.lst L)) = .ok (L ++ M) (s.own (.lst L)) :=
    cat_ok (x := .ref s.mo.length) (y := .lst M) (by simp only [RUN]) (by rw [r_fz, cm2]; rfl) (view_refL o1) rfl (by rw [lL, line]; show 10 + 2 ≤ 16777216; omega)
  have thLM : ∀ x ∈ L ++ M, Thing x := all_a th thM
  have lowM := things_low thLM (a := 0) (b := 0)
  refine ⟨(s.own (.lst L)).mo.length, (s.own (.lst L)).own (.lst (L ++ M)), L ++ M, by rw [own_len]; omega, own_get, thLM, by rw [List.length_append, lL]; show 10 + 2 ≤ 20; omega, fun k hk => ?_, rfl, fun g r hg => ?_⟩
  · rw [own_old (by rw [own_len]; omega), own_old hk]
  · refine seq_ok (e1 := [c0, c1, c2, some (.lst (nm.map D.str)), c4, some (.int (a : Int)), c6, some (.ref s.mo.length), c8, c9, c10, c11, c12, c13, c14, c15, c16, c17, c18]) (s1 := s.own (.lst L)) ?_ (seq_ok ?_ hg)
    · simp only [RUN, at2, cm, a1, a2, lLd, l1, l0, hL, low]
    · simp only [RUN, ct, lowM]
/-! ### the second part: lots -/
theorem lots_part {s : S} {n p : Nat} {nm : List Str} {ls : List (List Str)} {z : Str} {c0 c1 c2 c3 c5 c7 c8 c9 c10 c11 c12 c13 c15 c16 c17 c18 : Option D} (dr : Drawn n nm ls) (h8 : n ≤ 8) (hz : z ∈ nm) :
    ∃ (xs : List D), (∀ x ∈ xs, Thing x) ∧ xs.length ≤ 20 ∧ sAsg (xOwn (aLst (aCons (xFz (aCallN (fn1 gList) (aCons (xVar 4) aNil))) (aCons (xCall (noX (f1 gTuple)) (aCons (xVar 4) aNil)) (aCons (xFz (aComp (ixSeq (xVar 4)) (.one 16) tAll E_law_6 [16])) (aCons (xFz (aLst aNil)) (aCons (xC .non) (aCons (xC (.int 0)) (aCons (xC (.str "")) (aCons (xC (.str "ab")) (aCons xD0 (aCons (xFz (aLst (aCons (xC .non) aNil))) (aCons (xBin gAdd (xVar 4) (xFz (aLst (aCons (xBin gIx (xVar 4) (xC (.int 0))) aNil)))) (aCons (xBin gAdd (xVar 4) (xFz (aLst (aCons (xCall (noX (f1 gTuple)) (aCons (xBin gIx (xVar 4) (xC (.int 0))) aNil)) aNil)))) (aCons (xVar 14) (aCons (xFz (aLst (aCons (xVar 14) aNil))) (aCons (xFz (aLst (aCons (xFz (aLst (aCons (xFz (aLst (aCons (xVar 14) aNil))) aNil))) aNil))) aNil))))))))))))))))) (gVar 7) [c0, c1, c2, c3, some (.lst (ls.map lotS)), c5, some (.int (p : Int)), c7, c8, c9, c10, c11, c12, c13, some (.str z), c15, c16, c17, c18] s = .next [c0, c1, c2, c3, some (.lst (ls.map lotS)), c5, some (.int (p : Int)), some (.ref s.mo.length), c8, c9, c10, c11, c12, c13, some (.str z), c15, c16, c17, c18] (s.own (.lst xs)) := by
  have few := dr.few
  have le1 : ∀ x : D, [x].length ≤ 1000000 := fun x => by
    rw [List.length_singleton]
    omega
  have gs : ∀ x ∈ nm, x.length ≤ 1000000 := fun x hx => by
    have := (dr.good x hx).len
    omega
  have lot : ∀ l ∈ ls, l.length ≤ 8 := fun l hl => by
    have nd : l.Nodup := (dr.asc l hl).imp fun h e => by
      rw [e] at h
      exact ltS_irrefl h
    have := nodup_le nd (dr.mem l hl)
    rw [dr.len] at this
    omega
  have elS : ∀ l ∈ ls, El (lotS l) := fun l hl => el_lst (by have := lot l hl; omega) fun x hx => gs x (dr.mem l hl x hx)
  have elT : ∀ l ∈ ls, El (.tup (l.map D.str)) := fun l hl => el_tup (by have := lot l hl; omega) fun x hx => gs x (dr.mem l hl x hx)
  have elSs : ∀ x ∈ ls.map lotS, El x := fun x hx => by
    obtain ⟨l, hl, rfl⟩ := List.mem_map.mp hx
    exact elS l hl
  have elTs : ∀ x ∈ ls.map (fun l => D.tup (l.map D.str)), El x := fun x hx => by
    obtain ⟨l, hl, rfl⟩ := List.mem_map.mp hx
    exact elT l hl
  have ml : (ls.map lotS).length = ls.length := List.length_map _
  have ml2 : (ls.map fun l => D.tup (l.map D.str)).length = ls.length := List.length_map _
  obtain ⟨l0, lr, hls⟩ : ∃ l0 lr, ls = l0 :: lr := by
    cases h : ls with
    | nil => exact absurd h dr.ne
    | cons a b => exact ⟨a, b, rfl⟩
  have hl0 : l0 ∈ ls := by rw [hls]; exact List.mem_cons_self
  have at1 : gIx s (.lst (ls.map lotS)) (.int 0) = some (lotS l0) := by
    rw [hls, List.map_cons]
    exact at0
  have at2 : L2.atI (ls.map lotS) 0 = some (lotS l0) := at1
  have ez : El (.str z) := el_str (gs z hz)
  have tp : ∀ l : List Str, gTuple s (lotS l) = some (.tup (l.map D.str)) := fun l => rfl
  have cm : aComp (ixSeq (xVar 4)) (.one 16) tAll E_law_6 [16] [c0, c1, c2, c3, some (.lst (ls.map lotS)), c5, some (.int (p : Int)), c7, c8, c9, c10, c11, c12, c13, some (.str z), c15, c16, c17, c18] s = .ok ((ls.map fun l => l.map D.str).map D.tup) s :=
    aComp_mapE ls lotS (fun l => l.map D.str) D.tup (by simp only [RUN]) (by rw [line]; omega) fun l hl => ⟨_, rfl, by simp only [E_law_6, RUN, tp]⟩
  have cm : aComp (ixSeq (xVar 4)) (.one 16) tAll E_law_6 [16] [c0, c1, c2, c3, some (.lst (ls.map lotS)), c5, some (.int (p : Int)), c7, c8, c9, c10, c11, c12, c13, some (.str z), c15, c16, c17, c18] s = .ok (ls.map fun l => D.tup (l.map D.str)) s := by
    rw [cm, List.map_map]
    rfl
  have a1 : gAdd s (.lst (ls.map lotS)) (.lst [lotS l0]) = some (.lst (ls.map lotS ++ [lotS l0])) := o_catL (by rw [ml, List.length_singleton, line]; omega)
  have a2 : gAdd s (.lst (ls.map lotS)) (.lst [.tup (l0.map D.str)]) = some (.lst (ls.map lotS ++ [.tup (l0.map D.str)])) := o_catL (by rw [ml, List.length_singleton, line]; omega)
  have th : ∀ x ∈ [D.lst (ls.map lotS), .tup (ls.map lotS), .lst (ls.map fun l => D.tup (l.map D.str)), .lst [], .non, .int 0, .str "", .str "ab", .dct [] [], .lst [.non], .lst (ls.map lotS ++ [lotS l0]), .lst (ls.map lotS ++ [.tup (l0.map D.str)]), .str z, .lst [.str z], .lst [.lst [.lst [.str z]]]], Thing x :=
    all_c (thing_lst (by omega) elSs) (all_c (thing_tup (by omega) elSs) (all_c (thing_lst (by omega) elTs) (all_c ⟨rfl, .inl rfl⟩ (all_c ⟨rfl, .inl rfl⟩ (all_c ⟨rfl, .inl rfl⟩ (all_c (thing_str (by decide +kernel)) (all_c (thing_str (by decide +kernel)) (all_c ⟨rfl, .inr rfl⟩ (all_c ⟨rfl, .inl rfl⟩ (all_c (thing_lst (by rw [List.length_append, ml, List.length_singleton]; omega) (all_a elSs (all_c (elS l0 hl0) all_n))) (all_c (thing_lst (by rw [List.length_append, ml, List.length_singleton]; omega) (all_a elSs (all_c (elT l0 hl0) all_n))) (all_c ⟨ez.val, .inl rfl⟩ (all_c (thing_lst (le1 _) (all_c ez all_n)) (all_c (thing_lst (le1 _) (all_c ⟨val_lst (le1 _) (vals_all.mpr (all_c (val_lst (le1 _) (vals_all.mpr (all_c ez.val all_n))) all_n)), rfl⟩ all_n)) all_n))))))))))))))
  have low := things_low th (a := 0) (b := 0)
  have l1 : ∀ a : D, decide ([a].length ≤ sizeLine) = true := fun _ => rfl
  have lz : decide (([] : List D).length ≤ sizeLine) = true := rfl
  generalize hL : [D.lst (ls.map lotS), .tup (ls.map lotS), .lst (ls.map fun l => D.tup (l.map D.str)), .lst [], .non, .int 0, .str "", .str "ab", .dct [] [], .lst [.non], .lst (ls.map lotS ++ [lotS l0]), .lst (ls.map lotS ++ [.tup (l0.map D.str)]), .str z, .lst [.str z], .lst [.lst [.lst [.str z]]]] = L at th low
  have lL : L.length = 15 := by rw [← hL]; rfl
  have lLd : decide (L.length ≤ sizeLine) = true := by
    rw [lL]
    rfl
  refine ⟨L, th, by omega, ?_⟩
  simp only [RUN, at2, cm, a1, a2, tp, lLd, l1, lz, hL, low]
end K02
end
section
set_option Elab.async false
set_option linter.all false
set_option maxRecDepth 100000
set_option maxHeartbeats 8000000
namespace K02
open DV PySem
theorem turn_ok {s : S} {d : D} {ns : List Int} {t : Nat} (sc : scrD d ns) (hl : ns.length ≤ 63) (hb : ∀ z ∈ ns, Builtin.Int.intBits z ≤ 1048576) (ht : t < 5) {c2 c3 c4 c5 c6 c7 c8 c9 c10 c11 c12 c13 c14 c15 c16 c17 c18 : Option D} :
    ∃ (d2 d3 d4 d5 d6 d7 d8 d9 d10 d11 d12 d13 d14 d15 d16 d17 d18 : Option D) (s' : S), B_law_9 [some d, some (.int (t : Int)), c2, c3, c4, c5, c6, c7, c8, c9, c10, c11, c12, c13, c14, c15, c16, c17, c18] s = .next [some d, some (.int (t : Int)), d2, d3, d4, d5, d6, d7, d8, d9, d10, d11, d12, d13, d14, d15, d16, d17, d18] s' := by
  obtain ⟨s1, e1, ⟨o, ho⟩, sp1⟩ := spring_ok (s := s) (t := t) sc hl hb (by omega)
  have i1 : s.mo.length < s1.mo.length := by rw [ho, own_len]; omega
  generalize s.mo.length = i at e1 sp1 i1
  obtain ⟨x, s2, hx, e2, d2⟩ := pick_ok (xs := [.int 1, .int 2, .int 3, .int 5, .int 8]) sp1 (by omega) (by simp) (by simp) (all_c rfl (all_c rfl (all_c rfl (all_c rfl (all_c rfl all_n)))))
  obtain ⟨n, hn, n1, n8⟩ : ∃ n : Nat, x = natD n ∧ 1 ≤ n ∧ n ≤ 8 := by
    simp only [List.mem_cons, List.mem_nil_iff, or_false] at hx
    rcases hx with rfl | rfl | rfl | rfl | rfl
    · exact ⟨1, rfl, by omega, by omega⟩
    · exact ⟨2, rfl, by omega, by omega⟩
    · exact ⟨3, rfl, by omega, by omega⟩
    · exact ⟨5, rfl, by omega, by omega⟩
    · exact ⟨8, rfl, by omega, by omega⟩
  subst hn
  obtain ⟨nm, ls, s3, e3, d3, dr⟩ := drawn_ok (n := n) d2.spr (by omega) (by omega)
  obtain ⟨ka, s4, e4, a0, a1, d4⟩ := draw_ok (n := (n : Int)) d3.spr (by omega) (by omega) (by omega)
  have few := dr.few
  obtain ⟨kp, s5, e5, p0, p1, d5⟩ := draw_ok (n := (ls.length : Int) + 1) d4.spr (by omega) (by omega) (by omega)
  obtain ⟨a, rfl⟩ : ∃ a : Nat, ka = (a : Int) := ⟨ka.toNat, by omega⟩
  obtain ⟨p, rfl⟩ : ∃ p : Nat, kp = (p : Int) := ⟨kp.toNat, by omega⟩
  have ha : a < n := by omega
  have gs : ∀ x ∈ nm, x.length ≤ 1000000 := fun x hx => by
    have := (dr.good x hx).len
    omega
  have at1 : ∀ {s : S}, gIx s (.lst (nm.map D.str)) (.int (a : Int)) = some (.str (nm.getD a ⟨#[]⟩)) := names_at dr.len ha
  have at2 : L2.atI (nm.map D.str) (a : Int) = some (.str (nm.getD a ⟨#[]⟩)) := at1 (s := s)
  have hz : (nm.getD a ⟨#[]⟩) ∈ nm := by
    rw [List.getD_eq_getElem?_getD, List.getElem?_eq_getElem (by rw [dr.len]; exact ha)]
    exact List.getElem_mem _
  generalize nm.getD a ⟨#[]⟩ = z at at1 at2 hz
  have ez : El (.str z) := el_str (gs z hz)
  have el := el_strs gs
  have lot : ∀ l ∈ ls, l.length ≤ 8 := fun l hl => by
    have nd : l.Nodup := (dr.asc l hl).imp fun h e => by
      rw [e] at h
      exact ltS_irrefl h
    have := nodup_le nd (dr.mem l hl)
    rw [dr.len] at this
    omega
  have elSs : ∀ x ∈ ls.map lotS, El x := fun x hx => by
    obtain ⟨l, hl, rfl⟩ := List.mem_map.mp hx
    exact el_lst (by have := lot l hl; omega) fun x hx => gs x (dr.mem l hl x hx)
  have l5 : ∀ a b c d e : D, decide ([a, b, c, d, e].length ≤ sizeLine) = true := fun _ _ _ _ _ => rfl
  have l1 : ∀ a : D, decide ([a].length ≤ sizeLine) = true := fun _ => rfl
  have l2 : ∀ a b : D, decide ([a, b].length ≤ sizeLine) = true := fun _ _ => rfl
  have l11 : ∀ a b c d e f g h i j k : D, decide ([a, b, c, d, e, f, g, h, i, j, k].length ≤ sizeLine) = true := fun _ _ _ _ _ _ _ _ _ _ _ => rfl
  have i5 : i < s5.mo.length := by rw [d5.len, d4.len, d3.len, d2.len]; exact i1
  -- names
  obtain ⟨j, s6, xs6, j1, f6, th6, len6, old6, tg6, part1⟩ := names_part (s := s5) (a := a) (c0 := some d) (c1 := some (.int (t : Int))) (c2 := some (.ref i)) (c4 := some (.lst (ls.map lotS))) (c6 := some (.int (p : Int))) (c7 := c7) (c8 := c8) (c9 := c9) (c10 := c10) (c11 := c11) (c12 := c12) (c13 := c13) (c14 := c14) (c15 := c15) (c16 := c16) (c17 := c17) (c18 := c18) dr n8 ha
  have sp6 : Spr s6 i 10000 := by
    obtain ⟨q1, q2, q3, h1, h2⟩ := spr_le d5.spr (show 0 + 1 + 5000 + 1 + 1 ≤ 10000 by omega)
    exact ⟨q1, q2, q3, by rw [old6 i i5]; exact h1, h2⟩
  have elN : ∀ x ∈ [D.str "", .str "A", .str "9a", .str "a b", .str "a-b", .str "abcdefghi", .str "aB", .non, .int 0, .lst [.str "a"], .str "a\n"], El x :=
    all_c (el_str (by decide +kernel)) (all_c (el_str (by decide +kernel)) (all_c (el_str (by decide +kernel)) (all_c (el_str (by decide +kernel)) (all_c (el_str (by decide +kernel)) (all_c (el_str (by decide +kernel)) (all_c (el_str (by decide +kernel)) (all_c ⟨rfl, rfl⟩ (all_c ⟨rfl, rfl⟩ (all_c (el_lst (zs := ["a"]) (by decide) (all_c (by decide +kernel) all_n)) (all_c (el_str (by decide +kernel)) all_n))))))))))
  obtain ⟨c8', o6, run6, fnd6⟩ := loop_put (body := B_law_3) (g := gVar 8) (j := j) (b := 20) (s := s6) (ds := [D.str "", .str "A", .str "9a", .str "a b", .str "a-b", .str "abcdefghi", .str "aB", .non, .int 0, .lst [.str "a"], .str "a\n"]) (c := c8)
    (en := fun r z => [some d, some (.int (t : Int)), some (.ref i), some (.lst (nm.map D.str)), some (.lst (ls.map lotS)), some (.int (a : Int)), some (.int (p : Int)), some r, z, c9, c10, c11, c12, c13, c14, c15, c16, c17, c18])
    ⟨xs6, f6, th6, len6⟩ (fun _ _ _ => rfl) (fun x t' ys hx h1 h2 => put3 h1 h2 (by rw [List.length_map, dr.len]; omega) el (elN x hx)) (by decide)
  obtain ⟨xs7, f7, th7, len7⟩ := fnd6
  have sp7 : Spr (s6.put j o6) i 10000 := spr_put sp6 (by omega)
  generalize s6.put j o6 = s7 at run6 f7 sp7
  obtain ⟨g8, c9', c10', c11', c12', c13', run7⟩ := loop_tag (body := B_law_5) (s := s7) (en := fun c9 c10 c11 c12 c13 => [some d, some (.int (t : Int)), some (.ref i), some (.lst (nm.map D.str)), some (.lst (ls.map lotS)), some (.int (a : Int)), some (.int (p : Int)), some (.ref j), c8', c9, c10, c11, c12, c13, c14, c15, c16, c17, c18]) (c9 := c9) (c10 := c10) (c11 := c11) (c12 := c12) (c13 := c13) f7 th7 (fun _ _ _ _ _ _ _ => rfl) (fun v i t c10 c11 c12 c13 h hi => law5 h hi)
  have sp8 : Spr (⟨s7.mo, g8⟩ : S) i 10000 := spr_tg sp7
  have v7 : DV.view s7 (.ref j) = .lst xs7 := view_refL f7
  have w7 : wkD (.ref j) xs7 = ⟨xs7, [(j, xs7)]⟩ := rfl
  generalize (⟨s7.mo, g8⟩ : S) = s8 at run7 sp8
  obtain ⟨l, s9, e9, d9, l0, lsub, lsort⟩ := some_ok (names := nm) sp8 (by omega) (by rw [dr.len]; omega)
  have e9 : F__law_b_some s8 [.ref i, .lst (nm.map D.str)] = .ok (.lst (l.map D.str)) s9 := e9
  have ll : l.length ≤ 8 := by
    rw [lsort, sortS_perm.length_eq]
    have := lsub.length_le
    rw [dr.len] at this
    omega
  have lm : ∀ x ∈ l, x ∈ nm := fun x hx => by
    rw [lsort] at hx
    exact lsub.subset (sortS_perm.mem_iff.mp hx)
  have ell := el_strs fun x hx => gs x (lm x hx)
  -- lots
  obtain ⟨xs9, th9, len9, part2⟩ := lots_part (s := s9) (n := n) (p := p) (nm := nm) (ls := ls) (z := z) (c0 := some d) (c1 := some (.int (t : Int))) (c2 := some (.ref i)) (c3 := some (.lst (nm.map D.str))) (c5 := some (.int (a : Int))) (c7 := some (.ref j)) (c8 := c8') (c9 := c9') (c10 := c10') (c11 := c11') (c12 := c12') (c13 := c13') (c15 := some (.lst (l.map D.str))) (c16 := c16) (c17 := c17) (c18 := c18) dr n8 hz
  have f10 : (s9.own (.lst xs9)).mo[s9.mo.length]? = some (.lst xs9) := own_get
  generalize s9.mo.length = j2 at part2 f10
  generalize s9.own (.lst xs9) = s10 at part2 f10
  have mll : (l.map D.str).length ≤ 8 := by rw [List.length_map]; exact ll
  have q7 : El (.str "qq9qq9q") := el_str (by decide +kernel)
  have non : El .non := ⟨rfl, rfl⟩
  have elL : ∀ {xs : List D}, xs.length ≤ 100 → (∀ x ∈ xs, x.val = true ∧ x.smp 9 = true) → El (.lst xs) := fun h1 h2 => ⟨val_lst (by omega) (vals_all.mpr fun x hx => (h2 x hx).1), List.all_eq_true.mpr fun x hx => (h2 x hx).2⟩
  have elT : ∀ {xs : List D}, xs.length ≤ 100 → (∀ x ∈ xs, x.val = true ∧ x.smp 9 = true) → El (.tup xs) := fun h1 h2 => ⟨val_tup (by omega) (vals_all.mpr fun x hx => (h2 x hx).1), List.all_eq_true.mpr fun x hx => (h2 x hx).2⟩
  have sL : ∀ x ∈ l.map D.str, x.val = true ∧ x.smp 9 = true := fun x hx => by
    obtain ⟨y, hy, rfl⟩ := List.mem_map.mp hx
    exact ⟨(ell _ (List.mem_map_of_mem hy)).val, rfl⟩
  have sz : (D.str z).val = true ∧ (D.str z).smp 9 = true := ⟨ez.val, rfl⟩
  have sq : (D.str "qq9qq9q").val = true ∧ (D.str "qq9qq9q").smp 9 = true := ⟨q7.val, rfl⟩
  have sn : (D.non).val = true ∧ (D.non).smp 9 = true := ⟨rfl, rfl⟩
  have elM : ∀ x ∈ [D.lst [.str z, .str z], .lst [.str "qq9qq9q"], .lst (l.map D.str).reverse, .lst (l.map D.str ++ [.non]), .lst (l.map D.str ++ cutL (l.map D.str) (some (-1)) none), .str "ab", .non, .lst (l.map D.str ++ [.str "qq9qq9q"]), .lst (l.map D.str), .tup [.str z], .lst [.int 0]], El x :=
    all_c (elL (by simp) (all_c sz (all_c sz all_n))) (all_c (elL (by simp) (all_c sq all_n)) (all_c (elL (by rw [List.length_reverse]; omega) fun x hx => sL x (List.mem_reverse.mp hx)) (all_c (elL (by rw [List.length_append, List.length_singleton]; omega) (all_a sL (all_c sn all_n))) (all_c (elL (by have := cut_len (xs := l.map D.str) (a := some (-1)) (b := none); rw [List.length_append]; omega) (all_a sL (all_cut sL)))
      (all_c (el_str (by decide +kernel)) (all_c non (all_c (elL (by rw [List.length_append, List.length_singleton]; omega) (all_a sL (all_c sq all_n))) (all_c (elL (by omega) sL) (all_c (elT (by simp) (all_c sz all_n)) (all_c ⟨rfl, rfl⟩ all_n))))))))))
  obtain ⟨c16', o10, run10, fnd10⟩ := loop_put (body := B_law_7) (g := gVar 16) (j := j2) (b := 20) (s := s10) (ds := [D.lst [.str z, .str z], .lst [.str "qq9qq9q"], .lst (l.map D.str).reverse, .lst (l.map D.str ++ [.non]), .lst (l.map D.str ++ cutL (l.map D.str) (some (-1)) none), .str "ab", .non, .lst (l.map D.str ++ [.str "qq9qq9q"]), .lst (l.map D.str), .tup [.str z], .lst [.int 0]]) (c := c16)
    (en := fun r z' => [some d, some (.int (t : Int)), some (.ref i), some (.lst (nm.map D.str)), some (.lst (ls.map lotS)), some (.int (a : Int)), some (.int (p : Int)), some r, c8', c9', c10', c11', c12', c13', some (.str z), some (.lst (l.map D.str)), z', c17, c18])
    ⟨xs9, f10, th9, len9⟩ (fun _ _ _ => rfl) (fun x t' ys hx h1 h2 => put7 h1 h2 (by rw [List.length_map]; omega) elSs (elM x hx)) (by simp)
  obtain ⟨xs11, f11, th11, len11⟩ := fnd10
  generalize s10.put j2 o10 = s11 at run10 f11
  obtain ⟨g12, c9'', c10'', c11'', c12'', c13'', run11⟩ := loop_tag (body := B_law_8) (s := s11) (en := fun c9 c10 c11 c12 c13 => [some d, some (.int (t : Int)), some (.ref i), some (.lst (nm.map D.str)), some (.lst (ls.map lotS)), some (.int (a : Int)), some (.int (p : Int)), some (.ref j2), c8', c9, c10, c11, c12, c13, some (.str z), some (.lst (l.map D.str)), c16', c17, c18]) (c9 := c9') (c10 := c10') (c11 := c11') (c12 := c12') (c13 := c13') f11 th11 (fun _ _ _ _ _ _ _ => rfl) (fun v i t c10 c11 c12 c13 h hi => law8 h hi dr n1 n8)
  have v11 : DV.view s11 (.ref j2) = .lst xs11 := view_refL f11
  have w11 : wkD (.ref j2) xs11 = ⟨xs11, [(j2, xs11)]⟩ := rfl
  refine ⟨some (.ref i), some (.lst (nm.map D.str)), some (.lst (ls.map lotS)), some (.int (a : Int)), some (.int (p : Int)), some (.ref j2), c8', c9'', c10'', c11'', c12'', c13'', some (.str z), some (.lst (l.map D.str)), c16', c17, c18, ⟨s11.mo, g12⟩, ?_⟩
  unfold B_law_9
  refine seq_ok (e1 := [some d, some (.int (t : Int)), some (.ref i), c3, c4, c5, c6, c7, c8, c9, c10, c11, c12, c13, c14, c15, c16, c17, c18]) (s1 := s1) ?_ ?_
  · simp only [RUN, e1]
  unfold natD at e2 e3
  refine seq_ok (e1 := [some d, some (.int (t : Int)), some (.ref i), some (.lst (nm.map D.str)), some (.lst (ls.map lotS)), c5, c6, c7, c8, c9, c10, c11, c12, c13, c14, c15, c16, c17, c18]) (s1 := s3) ?_ ?_
  · simp only [RUN, l5, e2, e3]
  refine seq_ok (e1 := [some d, some (.int (t : Int)), some (.ref i), some (.lst (nm.map D.str)), some (.lst (ls.map lotS)), some (.int (a : Int)), some (.int (p : Int)), c7, c8, c9, c10, c11, c12, c13, c14, c15, c16, c17, c18]) (s1 := s5) ?_ ?_
  · simp only [RUN, List.length_map, dr.len, e4, e5]
  refine part1 _ _ ?_
  refine seq_ok (e1 := [some d, some (.int (t : Int)), some (.ref i), some (.lst (nm.map D.str)), some (.lst (ls.map lotS)), some (.int (a : Int)), some (.int (p : Int)), some (.ref j), c8', c9, c10, c11, c12, c13, c14, c15, c16, c17, c18]) (s1 := s7) ?_ ?_
  · simp only [RUN, l11, l1, run6]
  refine seq_ok (e1 := [some d, some (.int (t : Int)), some (.ref i), some (.lst (nm.map D.str)), some (.lst (ls.map lotS)), some (.int (a : Int)), some (.int (p : Int)), some (.ref j), c8', c9', c10', c11', c12', c13', c14, c15, c16, c17, c18]) (s1 := s8) ?_ ?_
  · simp only [RUN, v7, w7, run7]
  refine seq_ok (e1 := [some d, some (.int (t : Int)), some (.ref i), some (.lst (nm.map D.str)), some (.lst (ls.map lotS)), some (.int (a : Int)), some (.int (p : Int)), some (.ref j), c8', c9', c10', c11', c12', c13', some (.str z), some (.lst (l.map D.str)), c16, c17, c18]) (s1 := s9) ?_ ?_
  · simp only [RUN, at2, e9]
  refine seq_ok part2 ?_
  have rv : gRevL s10 (.lst (l.map D.str)) = some (.lst (l.map D.str).reverse) := rfl
  have b1 : gAdd s10 (.lst (l.map D.str)) (.lst [.non]) = some (.lst (l.map D.str ++ [.non])) := o_catL (by rw [List.length_singleton, line]; omega)
  have b2 : gAdd s10 (.lst (l.map D.str)) (.lst (cutL (l.map D.str) (some (-1)) none)) = some (.lst (l.map D.str ++ cutL (l.map D.str) (some (-1)) none)) := o_catL (by have := cut_len (xs := l.map D.str) (a := some (-1)) (b := none); rw [line]; omega)
  have b3 : gAdd s10 (.lst (l.map D.str)) (.lst [.str "qq9qq9q"]) = some (.lst (l.map D.str ++ [.str "qq9qq9q"])) := o_catL (by rw [List.length_singleton, line]; omega)
  refine seq_ok (e1 := [some d, some (.int (t : Int)), some (.ref i), some (.lst (nm.map D.str)), some (.lst (ls.map lotS)), some (.int (a : Int)), some (.int (p : Int)), some (.ref j2), c8', c9', c10', c11', c12', c13', some (.str z), some (.lst (l.map D.str)), c16', c17, c18]) (s1 := s11) ?_ ?_
  · simp only [RUN, sl_lst, rv, b1, b2, b3, l11, l1, l2, run10]
  · simp only [RUN, v11, w11, run11]
theorem law_ok {d : D} {ns : List Int} (hl : ns.length ≤ 63) (hb : ∀ z ∈ ns, Builtin.Int.intBits z ≤ 1048576) (sc : scrD d ns) : ∃ s', F_law ⟨[], 0⟩ [d] = .ok (.bl true) s' := by
  obtain ⟨e', s', run, k, _, c1, c2, c3, c4, c5, c6, c7, c8, c9, c10, c11, c12, c13, c14, c15, c16, c17, c18, he⟩ := for_run (g := gVar 1) (body := B_law_9) (w := ⟨rngD 0 5, []⟩) (e := [some d, none, none, none, none, none, none, none, none, none, none, none, none, none, none, none, none, none, none]) (s := ⟨[], 0⟩) (ds := rngD 0 5)
    (fun ds e t => ∃ k : Nat, (k ≤ 5 ∧ ds = rngD (k : Int) (5 - k)) ∧ ∃ c1 c2 c3 c4 c5 c6 c7 c8 c9 c10 c11 c12 c13 c14 c15 c16 c17 c18, e = [some d, c1, c2, c3, c4, c5, c6, c7, c8, c9, c10, c11, c12, c13, c14, c15, c16, c17, c18])
    ⟨0, ⟨by omega, rfl⟩, none, none, none, none, none, none, none, none, none, none, none, none, none, none, none, none, none, none, rfl⟩ (fun _ _ _ _ => same_nil) (by
      rintro x ds e t ⟨k, ⟨h1, h2⟩, c1, c2, c3, c4, c5, c6, c7, c8, c9, c10, c11, c12, c13, c14, c15, c16, c17, c18, rfl⟩
      have hk : k < 5 := by
        by_cases h : k < 5
        · exact h
        · have : 5 - k = 0 := by omega
          rw [this] at h2
          cases h2
      rw [show 5 - k = (5 - (k + 1)) + 1 by omega, rng_cons] at h2
      cases h2
      obtain ⟨d2, d3, d4, d5, d6, d7, d8, d9, d10, d11, d12, d13, d14, d15, d16, d17, d18, s', q⟩ := turn_ok (s := t) (t := k) sc hl hb hk (c2 := c2) (c3 := c3) (c4 := c4) (c5 := c5) (c6 := c6) (c7 := c7) (c8 := c8) (c9 := c9) (c10 := c10) (c11 := c11) (c12 := c12) (c13 := c13) (c14 := c14) (c15 := c15) (c16 := c16) (c17 := c17) (c18 := c18)
      exact ⟨[some d, some (.int (k : Int)), c2, c3, c4, c5, c6, c7, c8, c9, c10, c11, c12, c13, c14, c15, c16, c17, c18], t, rfl, _, _, q, k + 1, ⟨by omega, rfl⟩, _, _, _, _, _, _, _, _, _, _, _, _, _, _, _, _, _, _, rfl⟩)
  subst he
  have start : runDef 1 19 m_law ⟨[], 0⟩ [d] = endDef ⟨[], 0⟩ (m_law [some d, none, none, none, none, none, none, none, none, none, none, none, none, none, none, none, none, none, none] ⟨[], 0⟩) := run_def rfl
  have rg : ixRng1 (aCons (xC (.int 5)) aNil) [some d, none, none, none, none, none, none, none, none, none, none, none, none, none, none, none, none, none, none] ⟨[], 0⟩ = .ok ⟨rngD 0 5, []⟩ ⟨[], 0⟩ := rng1 (n := 5) rfl (by decide)
  have l1 : ∀ a : D, decide ([a].length ≤ sizeLine) = true := fun _ => rfl
  have l2 : ∀ a b : D, decide ([a, b].length ≤ sizeLine) = true := fun _ _ => rfl
  have k1 : F_are_lots s' [.lst [.str "a", .str "b"], .lst [.str "ab"]] = .ok (.bl false) s' := by
    have q := are_lots_ok (s := s') (d := .lst [.str "a", .str "b"]) (v := .lst [.str "a", .str "b"]) (x := .lst [.str "ab"]) (w := .lst [.str "ab"]) (nm := ["a", "b"]) rfl (by decide +kernel) (by decide +kernel) rfl rfl (by decide +kernel)
    rw [q, show lotsB ["a", "b"] (.lst [.str "ab"]) = false by decide +kernel]
  have k2 : F_are_lots s' [.lst [.str "a"], .lst [.str ""]] = .ok (.bl false) s' := by
    have q := are_lots_ok (s := s') (d := .lst [.str "a"]) (v := .lst [.str "a"]) (x := .lst [.str ""]) (w := .lst [.str ""]) (nm := ["a"]) rfl (by decide +kernel) (by decide +kernel) rfl rfl (by decide +kernel)
    rw [q, show lotsB ["a"] (.lst [.str ""]) = false by decide +kernel]
  have hd : D.lows 0 0 [d] = true := by
    rcases sc with rfl | rfl
    · rfl
    · exact low1 (show D.lows 0 0 (ns.map D.int) = true from lows_map fun _ _ => rfl)
  refine ⟨back ⟨[], 0⟩ s', ?_⟩
  show (if D.lows 0 0 [d] = true then lowO (runDef 1 19 m_law ⟨[], 0⟩ [d]) else .stuck) = _
  rw [if_pos hd, start]
  unfold m_law
  simp only [RUN, rg, run, l1, l2, k1, k2, decide_true, RUN2]
  rfl
end K02
end
set_option maxRecDepth 100000 in
set_option maxHeartbeats 8000000 in
theorem PySem.Challenge.cw_oneortwo_k02_whole_names_and_lots_refuse_holds : PySem.Challenge.rw_oneortwo_k02_whole_names_and_lots_refuse.Holds := by
  exact K02.holds fun ns d hl hb sc => K02.law_ok hl hb sc
