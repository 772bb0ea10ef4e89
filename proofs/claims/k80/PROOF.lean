import PyProof.Rows.All
import Wide.All
import OpenK.AllK
import Wide.FinOn
import HandS.ForMost
import HandS.Lambda
import HandS.IsInst
import HandS.TupAny
import HandS.Deep
import HandS.SortInts
import HandS.SetFor
import HandS.Wide
import HandS.WideMore
import HandS.Conv
import HandS.Style
import HandS.TupMul
import HandS.WordsDict
import KE.KTupSum
import KE.DataMinMax
import KE.SortData
import HandS.Codes
import HandS.DictComp
import HandS.Walk
import KE.GoesEnum
import KE.GoesMore
import HandS.Head0
import HandS.Head1
import HandS.Head2
import HandS.HeadHook4
import HandS.HeadWalk
import HandS.ExcOwn
import HandS.ExcIs
import PyProof.ExcBaseAll.ValueError
import PySem.Challenge.RW_stripturns_k80_whole_bounds_of_sums_alon
set_option Elab.async false
set_option linter.all false
set_option maxRecDepth 100000
set_option maxHeartbeats 4000000
namespace AV
open PySem PySem.Spec PyProof.Rows L2
/-! ## data -/
/-- a lambda without parameters: its qualified name, its text, its cells -/
structure Clo where
  q : Str
  params : Arguments
  body : Expr
  scope : Scope
  cl : List (Str × Addr)
/-- its function object -/
def Clo.ob (c : Clo) (pm : Value) (c' : Addr) (ctv : Value) : Obj := PySem.W.kla_obj "<lambda>" c.q c.params c.body c.scope c.cl pm c' ctv
inductive D where
  | non | bl (b : Bool) | int (i : Int) | str (x : Str)
  | lst (xs : List D) | tup (xs : List D)
  | ins (C : Addr) (fs : List (Str × D))
  | dct (kvs : List (Key × D)) | dtt (kvs : List (List Key × D))
  | typ (n : String) | obj (a : Addr)
  | ktp (xs : List D) | scr (ns : List Int)
  /-- vs: values that it may want, told as ds -/
  | clo (c : Clo) (vs : List V) (ds : List D)
/-- what is there stays -/
def Ex (H H' : Hp) : Prop := ∀ a o, H a = some o → H' a = some o
theorem Ex.refl (H : Hp) : Ex H H := fun _ _ h => h
theorem Ex.trans {H H1 H2 : Hp} (a : Ex H H1) (b : Ex H1 H2) : Ex H H2 := fun x o h => b x o (a x o h)
theorem Ex.new {H : Hp} {p : Addr} {o : HO} (h : H p = none) : Ex H (upd H p o) := fun a u e => by
  rw [upd_ne (ne_of_none e h)]; exact e
theorem Ex.off {H H' : Hp} {p : Addr} {o : HO} (e : Ex H H') (h : H p = none) : Ex H (upd H' p o) := fun a u ha => by
  rw [upd_ne (ne_of_none ha h)]; exact e a u ha
theorem Ex.back {H H' : Hp} {p : Addr} (e : Ex H H') (h : H' p = none) : H p = none := by
  cases q : H p with
  | none => rfl
  | some o => rw [e p o q] at h; cases h
theorem Ex.rd {H H' : Hp} {a : Addr} {u : HO} (e : Ex H H') (h : Rd H a u) : Rd H' a u := by
  rcases h with h | ⟨o, h⟩
  · exact Or.inl (e a _ h)
  · exact Or.inr ⟨o, e a _ h⟩
theorem Ex.sql {K : PySem.W.Frag} {H H' : Hp} {a : Addr} {xs : List V} (e : Ex H H') (h : SqL K H a xs) : SqL K H' a xs := by
  rcases h with h | h
  · exact Or.inl (e.rd h)
  · exact Or.inr h
theorem Ex.sqt {K : PySem.W.Frag} {H H' : Hp} {a : Addr} {xs : List V} (e : Ex H H') (h : SqT K H a xs) : SqT K H' a xs := by
  rcases h with h | h
  · exact Or.inl (e.rd h)
  · exact Or.inr h
mutual
inductive Re (K : PySem.W.Frag) (G : Hp) : V → D → Prop
  | non : Re K G .non .non
  | bl (b : Bool) : Re K G (.bl b) (.bl b)
  | int (i : Int) : Re K G (.int i) (.int i)
  | str (x : Str) : Re K G (.str x) (.str x)
  | lst {a : Addr} {vs : List V} {ds : List D} : G a = some (.lst vs) → ReA K G vs ds → Re K G (.ref a) (.lst ds)
  | tup {a : Addr} {vs : List V} {ds : List D} : G a = some (.tup vs) → ReA K G vs ds → Re K G (.ref a) (.tup ds)
  | ins {a C dx : Addr} {fs : List (Str × V)} {ds : List (Str × D)} : G a = some (.ins C dx fs) → fs.map (·.1) = ds.map (·.1) → ReA K G (fs.map (·.2)) (ds.map (·.2)) → Re K G (.ref a) (.ins C ds)
  | dct {a : Addr} {kvs : List (Key × V)} {ds : List (Key × D)} : G a = some (.dK kvs) → kvs.map (·.1) = ds.map (·.1) → ReA K G (kvs.map (·.2)) (ds.map (·.2)) → Re K G (.ref a) (.dct ds)
  | dtt {a : Addr} {kvs : List (List Key × V)} {ds : List (List Key × D)} : G a = some (.dT kvs) → kvs.map (·.1) = ds.map (·.1) → ReA K G (kvs.map (·.2)) (ds.map (·.2)) → Re K G (.ref a) (.dtt ds)
  | typ (n : String) : Re K G (.ty n) (.typ n)
  | obj (a : Addr) : Re K G (.ref a) (.obj a)
  | ktp {a : Addr} {vs : List V} {ds : List D} : SqT K G a vs → ReA K G vs ds → Re K G (.ref a) (.ktp ds)
  | scr {a : Addr} (ns : List Int) : SqL K G a (ns.map V.int) → Re K G (.ref a) (.scr ns)
  | clo {a c' : Addr} {c : Clo} {pm ctv : Value} {vs : List V} {ds : List D} : G a = some (.frz (c.ob pm c' ctv) (.own a)) → G c' = some (LamX.CodeO c' c.q) → ReA K G vs ds → Re K G (.ref a) (.clo c vs ds)
inductive ReA (K : PySem.W.Frag) (G : Hp) : List V → List D → Prop
  | nil : ReA K G [] []
  | cons {v : V} {vs : List V} {d : D} {ds : List D} : Re K G v d → ReA K G vs ds → ReA K G (v :: vs) (d :: ds)
end
section
variable {K : PySem.W.Frag} {G G' : Hp}
mutual
theorem Re.mono (e : Ex G G') : ∀ {v : V} {d : D}, Re K G v d → Re K G' v d
  | _, _, .non => .non
  | _, _, .bl b => .bl b
  | _, _, .int i => .int i
  | _, _, .str x => .str x
  | _, _, .lst h r => .lst (e _ _ h) (ReA.mono e r)
  | _, _, .tup h r => .tup (e _ _ h) (ReA.mono e r)
  | _, _, .ins h q r => .ins (e _ _ h) q (ReA.mono e r)
  | _, _, .dct h q r => .dct (e _ _ h) q (ReA.mono e r)
  | _, _, .dtt h q r => .dtt (e _ _ h) q (ReA.mono e r)
  | _, _, .typ n => .typ n
  | _, _, .obj a => .obj a
  | _, _, .ktp h r => .ktp (e.sqt h) (ReA.mono e r)
  | _, _, .scr ns h => .scr ns (e.sql h)
  | _, _, .clo h h2 r => .clo (e _ _ h) (e _ _ h2) (ReA.mono e r)
theorem ReA.mono (e : Ex G G') : ∀ {vs : List V} {ds : List D}, ReA K G vs ds → ReA K G' vs ds
  | _, _, .nil => .nil
  | _, _, .cons r t => .cons (Re.mono e r) (ReA.mono e t)
end
theorem ReA.length : ∀ {vs : List V} {ds : List D}, ReA K G vs ds → vs.length = ds.length
  | _, _, .nil => rfl
  | _, _, .cons _ t => by simp [ReA.length t]
theorem ReA.get : ∀ {vs : List V} {ds : List D} {i : Nat} {d : D}, ReA K G vs ds → ds[i]? = some d → ∃ v, vs[i]? = some v ∧ Re K G v d
  | _, _, _, _, .nil, e => by simp at e
  | _, _, 0, _, .cons r _, e => by simp at e; subst e; exact ⟨_, rfl, r⟩
  | _, _, i + 1, d, .cons _ t, e => by
    obtain ⟨v, h1, h2⟩ := ReA.get (i := i) (d := d) t (by simpa using e)
    exact ⟨v, by simpa using h1, h2⟩
theorem ReA.getV : ∀ {vs : List V} {ds : List D} {i : Nat} {v : V}, ReA K G vs ds → vs[i]? = some v → ∃ d, ds[i]? = some d ∧ Re K G v d
  | _, _, _, _, .nil, e => by simp at e
  | _, _, 0, _, .cons r _, e => by simp at e; subst e; exact ⟨_, rfl, r⟩
  | _, _, i + 1, v, .cons _ t, e => by
    obtain ⟨d, h1, h2⟩ := ReA.getV (i := i) (v := v) t (by simpa using e)
    exact ⟨d, by simpa using h1, h2⟩
theorem ReA.append : ∀ {vs ws : List V} {ds es : List D}, ReA K G vs ds → ReA K G ws es → ReA K G (vs ++ ws) (ds ++ es)
  | _, _, _, _, .nil, s => s
  | _, _, _, _, .cons r t, s => .cons r (ReA.append t s)
theorem ReA.one {v : V} {d : D} (h : Re K G v d) : ReA K G [v] [d] := .cons h .nil
theorem ReA.set {v : V} {d : D} (r : Re K G v d) : ∀ {vs : List V} {ds : List D} (i : Nat), ReA K G vs ds → ReA K G (vs.set i v) (ds.set i d)
  | _, _, _, .nil => .nil
  | _, _, 0, .cons _ t => .cons r t
  | _, _, i + 1, .cons q t => .cons q (ReA.set r i t)
theorem ReA.take : ∀ {vs : List V} {ds : List D} (n : Nat), ReA K G vs ds → ReA K G (vs.take n) (ds.take n)
  | _, _, 0, _ => by simp; exact .nil
  | _, _, n + 1, .nil => by simp; exact .nil
  | _, _, n + 1, .cons r t => by simp; exact .cons r (ReA.take n t)
theorem ReA.drop : ∀ {vs : List V} {ds : List D} (n : Nat), ReA K G vs ds → ReA K G (vs.drop n) (ds.drop n)
  | _, _, 0, r => by simpa using r
  | _, _, n + 1, .nil => by simp; exact .nil
  | _, _, n + 1, .cons _ t => by simp; exact ReA.drop n t
theorem ReA.eraseIdx : ∀ {vs : List V} {ds : List D} (n : Nat), ReA K G vs ds → ReA K G (vs.eraseIdx n) (ds.eraseIdx n)
  | _, _, _, .nil => .nil
  | _, _, 0, .cons _ t => t
  | _, _, n + 1, .cons r t => .cons r (ReA.eraseIdx n t)
theorem ReA.reverse {vs : List V} {ds : List D} (h : ReA K G vs ds) : ReA K G vs.reverse ds.reverse := by
  induction vs generalizing ds with
  | nil => cases h; exact .nil
  | cons v vs ih => cases h with | cons r t => rw [List.reverse_cons, List.reverse_cons]; exact (ih t).append (.one r)
theorem ReA.dropLast {vs : List V} {ds : List D} (h : ReA K G vs ds) : ReA K G vs.dropLast ds.dropLast := by
  rw [List.dropLast_eq_take, List.dropLast_eq_take, h.length]; exact h.take _
theorem ReA.rep {vs : List V} {ds : List D} (h : ReA K G vs ds) : ∀ k : Nat, ReA K G (List.replicate k vs).flatten (List.replicate k ds).flatten
  | 0 => .nil
  | k + 1 => by rw [List.replicate_succ, List.replicate_succ, List.flatten_cons, List.flatten_cons]; exact h.append (ReA.rep h k)
/-- the values of scalars are told by the data -/
theorem Re.intE {v : V} {i : Int} (h : Re K G v (.int i)) : v = .int i := by cases h; rfl
theorem Re.blE {v : V} {b : Bool} (h : Re K G v (.bl b)) : v = .bl b := by cases h; rfl
theorem Re.strE {v : V} {x : Str} (h : Re K G v (.str x)) : v = .str x := by cases h; rfl
theorem Re.nonE {v : V} (h : Re K G v .non) : v = .non := by cases h; rfl
theorem ReA.ints : ∀ {vs : List V} {ns : List Int}, ReA K G vs (ns.map D.int) → vs = ns.map V.int
  | _, [], .nil => rfl
  | _, n :: ns, .cons r t => by rw [Re.intE r, ReA.ints t]; rfl
theorem ReA.ofInts : ∀ (ns : List Int), ReA K G (ns.map V.int) (ns.map D.int)
  | [] => .nil
  | n :: ns => .cons (.int n) (ReA.ofInts ns)
theorem ReA.bls : ∀ {vs : List V} {ns : List Bool}, ReA K G vs (ns.map D.bl) → vs = ns.map V.bl
  | _, [], .nil => rfl
  | _, n :: ns, .cons r t => by rw [Re.blE r, ReA.bls t]; rfl
end
/-! ## what slots hold -/
/-- what an object of ours holds -/
inductive C where
  | l (ds : List D) | k (kvs : List (Key × D)) | t (kvs : List (List Key × D)) | i (cl : Addr) (fs : List (Str × D))
def C.toD : C → D
  | .l ds => .lst ds | .k kvs => .dct kvs | .t kvs => .dtt kvs | .i cl fs => .ins cl fs
def RC (K : PySem.W.Frag) (G : Hp) (ho : HO) : C → Prop
  | .l ds => ∃ vs, ho = .lst vs ∧ ReA K G vs ds
  | .k ds => ∃ kvs, ho = .dK kvs ∧ kvs.map (·.1) = ds.map (·.1) ∧ ReA K G (kvs.map (·.2)) (ds.map (·.2))
  | .t ds => ∃ kvs, ho = .dT kvs ∧ kvs.map (·.1) = ds.map (·.1) ∧ ReA K G (kvs.map (·.2)) (ds.map (·.2))
  | .i cl ds => ∃ dx kvs, ho = .ins cl dx kvs ∧ kvs.map (·.1) = ds.map (·.1) ∧ ReA K G (kvs.map (·.2)) (ds.map (·.2))
theorem RC.mono {K : PySem.W.Frag} {G G' : Hp} (e : Ex G G') {ho : HO} {c : C} (h : RC K G ho c) : RC K G' ho c := by
  cases c with
  | l ds => obtain ⟨vs, q, r⟩ := h; exact ⟨vs, q, r.mono e⟩
  | k ds => obtain ⟨vs, q, q2, r⟩ := h; exact ⟨vs, q, q2, r.mono e⟩
  | t ds => obtain ⟨vs, q, q2, r⟩ := h; exact ⟨vs, q, q2, r.mono e⟩
  | i cl ds => obtain ⟨dx, vs, q, q2, r⟩ := h; exact ⟨dx, vs, q, q2, r.mono e⟩
theorem RC.re {K : PySem.W.Frag} {G G' : Hp} {p : Addr} {ho : HO} {c : C} (h : RC K G ho c) (e : Ex G G') (hp : G' p = some ho) : Re K G' (.ref p) c.toD := by
  cases c with
  | l ds => obtain ⟨vs, rfl, r⟩ := h; exact .lst hp (r.mono e)
  | k ds => obtain ⟨vs, rfl, q2, r⟩ := h; exact .dct hp q2 (r.mono e)
  | t ds => obtain ⟨vs, rfl, q2, r⟩ := h; exact .dtt hp q2 (r.mono e)
  | i cl ds => obtain ⟨dx, vs, rfl, q2, r⟩ := h; exact .ins hp q2 (r.mono e)
inductive It where
  | d (x : D) | o (c : C)
inductive Rs where
  | d (x : D) | n (c : C) | s (i : Nat)
abbrev Gm := List (Option It)
/-- ad: where the slots' objects stand that the caller handed in; tabs: the tables of code objects that may grow here, with the name that they tell -/
structure Pin where
  ad : Nat → Option Addr
  tabs : List (Addr × Str)
instance : CoeFun Pin fun _ => Nat → Option Addr := ⟨Pin.ad⟩
/-- an object of the frame stands as it stood; a table of code objects may have grown -/
def FrH (G H : Hp) (a : Addr) : HO → Prop
  | .tbl q0 => ∃ (q : Str) (t : Tok) (ps : Array Value), q0 = #[.str q t] ∧ H a = some (.tbl ps) ∧ TriplesOk ps.toList ∧ ∀ (pos : Pos) (cv : Value), codeAmong pos ps.toList = some cv → ∃ c, cv = .ref c ∧ G c = some (LamX.CodeO c q)
  | o => H a = some o
theorem FrH.some {G H : Hp} {a : Addr} {o : HO} (h : FrH G H a o) : ∃ u, H a = some u := by
  cases o with
  | tbl q0 => obtain ⟨_, _, ps, _, e, _⟩ := h; exact ⟨_, e⟩
  | _ => exact ⟨_, h⟩
theorem FrH.mono {G G' H H' : Hp} {a : Addr} {o : HO} (e : Ex G G') (k : ∀ u, H a = Option.some u → H' a = Option.some u) (h : FrH G H a o) : FrH G' H' a o := by
  cases o with
  | tbl q0 =>
    obtain ⟨q, t, ps, e1, e2, e3, e4⟩ := h
    refine ⟨q, t, ps, e1, k _ e2, e3, fun pos cv hc => ?_⟩
    obtain ⟨c, z1, z2⟩ := e4 pos cv hc
    exact ⟨c, z1, e _ _ z2⟩
  | _ => exact k _ h
theorem FrH.of {G H : Hp} {a : Addr} {o : HO} (h : H a = Option.some o) (n : ∀ ps, o ≠ .tbl ps) : FrH G H a o := by
  cases o with
  | tbl q0 => exact absurd rfl (n q0)
  | _ => exact h
theorem FrH.eqn {G H : Hp} {a : Addr} {o : HO} (h : FrH G H a o) (n : ∀ ps, o ≠ .tbl ps) : H a = Option.some o := by
  cases o with
  | tbl q0 => exact absurd rfl (n q0)
  | _ => exact h
theorem RC.ntbl {K : PySem.W.Frag} {G : Hp} {ho : HO} {c : C} (h : RC K G ho c) : ∀ ps, ho ≠ .tbl ps := by
  intro ps z
  subst z
  cases c with
  | l ds => obtain ⟨_, q, _⟩ := h; cases q
  | k ds => obtain ⟨_, q, _⟩ := h; cases q
  | t ds => obtain ⟨_, q, _⟩ := h; cases q
  | i cl ds => obtain ⟨_, _, q, _⟩ := h; cases q
def Sl (K : PySem.W.Frag) (F : Hp) (σ : L2.St) (H G : Hp) (α : Nat → Addr) (i : Nat) : It → Prop
  | .d x => ∃ v, σ[i]? = some (some v) ∧ Re K G v x
  | .o c => σ[i]? = some (some (.ref (α i))) ∧ G (α i) = none ∧ F (α i) = none ∧ ∃ ho, H (α i) = some ho ∧ RC K G ho c
structure Sk (K : PySem.W.Frag) (pa : Pin) (F : Hp) (σ : L2.St) (H G : Hp) (Γ : Gm) (α : Nat → Addr) : Prop where
  ext : Ex G H
  fr : ∀ a o, F a = some o → FrH G H a o ∧ G a = none
  len : σ.length = Γ.length
  sl : ∀ i it, Γ[i]? = some (some it) → Sl K F σ H G α i it
  inj : ∀ i j c c', Γ[i]? = some (some (.o c)) → Γ[j]? = some (some (.o c')) → α i = α j → i = j
  pin : ∀ i p, pa i = some p → α i = p ∧ ∃ c, Γ[i]? = some (some (.o c))
  tab : ∀ p ∈ pa.tabs, ∃ t, F p.1 = some (.tbl #[.str p.2 t])
def Sk0 (K : PySem.W.Frag) (pa : Pin) (F : Hp) (σ : L2.St) (H G : Hp) (Γ : Gm) : Prop := ∃ α, Sk K pa F σ H G Γ α
/-- a value and what it is told as -/
def Rv (K : PySem.W.Frag) (F : Hp) (σ : L2.St) (H G : Hp) (Γ : Gm) (α : Nat → Addr) (v : V) : Rs → Prop
  | .d x => Re K G v x
  | .n c => ∃ p ho, v = .ref p ∧ G p = none ∧ F p = none ∧ (∀ i c, Γ[i]? = some (some (.o c)) → α i ≠ p) ∧ H p = some ho ∧ RC K G ho c
  | .s i => σ[i]? = some (some v) ∧ ∃ c, Γ[i]? = some (some (.o c))
def StR (K : PySem.W.Frag) (pa : Pin) (F : Hp) (σ : L2.St) (H G : Hp) (Γ : Gm) (v : V) (r : Rs) : Prop := ∃ α, Sk K pa F σ H G Γ α ∧ Rv K F σ H G Γ α v r
/-- as data -/
def rd (Γ : Gm) : Rs → Option D
  | .d x => some x
  | .n c => some c.toD
  | .s i => match Γ[i]? with
    | some (some (.o c)) => some c.toD
    | _ => none
def Rs.fz : Rs → Rs
  | .d x => .d x
  | .n c => .d c.toD
  | .s i => .s i
section
variable {K : PySem.W.Frag} {pa : Pin} {F : Hp} {σ : L2.St} {H H' G G' : Hp} {Γ Γ' : Gm} {α : Nat → Addr} {v : V} {r : Rs} {x : D}
theorem Sk.ow (S : Sk K pa F σ H G Γ α) {i : Nat} {c : C} (h : Γ[i]? = some (some (.o c))) : σ[i]? = some (some (.ref (α i))) ∧ G (α i) = none ∧ F (α i) = none ∧ ∃ ho, H (α i) = some ho ∧ RC K G ho c := S.sl i _ h
/-- what is told, over the whole heap -/
theorem StR.look (S : StR K pa F σ H G Γ v r) (h : rd Γ r = some x) : Re K H v x := by
  obtain ⟨α, S, rv⟩ := S
  cases r with
  | d y => cases h; exact Re.mono S.ext rv
  | n c =>
    cases h
    obtain ⟨p, ho, rfl, _, _, _, hp, rc⟩ := rv
    exact rc.re S.ext hp
  | s i =>
    obtain ⟨e, c, hc⟩ := rv
    simp only [rd, hc] at h
    cases h
    obtain ⟨e2, _, _, ho, hp, rc⟩ := S.ow hc
    rw [e] at e2; cases e2
    exact rc.re S.ext hp
/-- a new thing is told as data from now on -/
theorem StR.fz (S : StR K pa F σ H G Γ v r) : ∃ G', Ex G G' ∧ StR K pa F σ H G' Γ v r.fz := by
  obtain ⟨α, S, rv⟩ := S
  cases r with
  | d y => exact ⟨G, Ex.refl G, α, S, rv⟩
  | s i => exact ⟨G, Ex.refl G, α, S, rv⟩
  | n c =>
    obtain ⟨p, ho, rfl, g0, f0, na, hp, rc⟩ := rv
    have e : Ex G (upd G p ho) := Ex.new g0
    refine ⟨upd G p ho, e, α, ⟨?_, ?_, S.len, ?_, S.inj, S.pin, S.tab⟩, rc.re e upd_same⟩
    · intro a o h
      by_cases ha : a = p
      · subst ha; rw [upd_same] at h; cases h; exact hp
      · rw [upd_ne ha] at h; exact S.ext a o h
    · intro a o h
      obtain ⟨h1, h2⟩ := S.fr a o h
      refine ⟨h1.mono e fun _ q => q, ?_⟩
      rw [upd_ne (fun z => by subst z; rw [f0] at h; cases h)]; exact h2
    · intro i it hi
      cases it with
      | d y => obtain ⟨w, e1, e2⟩ := S.sl i _ hi; exact ⟨w, e1, e2.mono e⟩
      | o c' =>
        obtain ⟨e1, e2, e3, ho', e4, e5⟩ := S.sl i _ hi
        exact ⟨e1, by rw [upd_ne (na i c' hi)]; exact e2, e3, ho', e4, e5.mono e⟩
/-- a value that is carried on: no new thing -/
def Cv (K : PySem.W.Frag) (σ : L2.St) (G : Hp) (v : V) : Rs → Prop
  | .d x => Re K G v x
  | .n _ => False
  | .s i => σ[i]? = some (some v)
theorem Cv.mono (e : Ex G G') (h : Cv K σ G v r) : Cv K σ G' v r := by
  cases r with
  | d y => exact Re.mono e h
  | n c => exact h
  | s i => exact h
theorem StR.cv (S : StR K pa F σ H G Γ v r.fz) : Cv K σ G v r.fz := by
  obtain ⟨α, S, rv⟩ := S
  cases r with
  | d y => exact rv
  | n c => exact rv
  | s i => exact rv.1
theorem Cv.look (h : Cv K σ G v r) (S : Sk K pa F σ H G Γ α) (e : rd Γ r = some x) : Re K H v x := by
  cases r with
  | d y => cases e; exact Re.mono S.ext h
  | n c => exact h.elim
  | s i =>
    cases q : Γ[i]? with
    | none => simp only [rd, q] at e; cases e
    | some w =>
      simp only [rd, q] at e
      cases w with
      | none => cases e
      | some it =>
        cases it with
        | d y => cases e
        | o c =>
          cases e
          obtain ⟨e2, _, _, ho, hp, rc⟩ := S.ow q
          have h' : σ[i]? = some (some v) := h
          rw [h'] at e2; cases e2
          exact rc.re S.ext hp
/-- the heap may grow -/
theorem Sk.grow (S : Sk K pa F σ H G Γ α) (e : Ex H H') : Sk K pa F σ H' G Γ α where
  ext := S.ext.trans e
  fr := fun a o h => ⟨(S.fr a o h).1.mono (Ex.refl _) fun u q => e _ _ q, (S.fr a o h).2⟩
  len := S.len
  sl := fun i it h => by
    cases it with
    | d y => exact S.sl i _ h
    | o c =>
      obtain ⟨e1, e2, e3, ho', e4, e5⟩ := S.sl i _ h
      exact ⟨e1, e2, e3, ho', e _ _ e4, e5⟩
  inj := S.inj
  pin := S.pin
  tab := S.tab
/-- a result that is data over what stays -/
theorem Sk.str (S : Sk K pa F σ H G Γ α) (h : Re K G v x) : StR K pa F σ H G Γ v (.d x) := ⟨α, S, h⟩
/-- a new object at p -/
theorem Sk.new {p : Addr} {ho : HO} {c : C} (S : Sk K pa F σ H G Γ α) (hp : H p = none) (rc : RC K G ho c) : StR K pa F σ (upd H p ho) G Γ (.ref p) (.n c) := by
  refine ⟨α, S.grow (Ex.new hp), p, ho, rfl, S.ext.back hp, ?_, fun i c hc z => ?_, upd_same, rc⟩
  · cases q : F p with
    | none => rfl
    | some o => obtain ⟨u, hu⟩ := (S.fr p o q).1.some; rw [hu] at hp; cases hp
  · obtain ⟨_, _, _, ho', e4, _⟩ := S.ow hc
    rw [z, hp] at e4; cases e4
/-- a new tuple (told as data) -/
theorem Sk.newD {p : Addr} {ho : HO} {x : D} (S : Sk K pa F σ H G Γ α) (hp : H p = none) (h : ∀ G', Ex G G' → G' p = some ho → Re K G' (.ref p) x) : ∃ G', Ex G G' ∧ StR K pa F σ (upd H p ho) G' Γ (.ref p) (.d x) := by
  have g0 := S.ext.back hp
  have e : Ex G (upd G p ho) := Ex.new g0
  have f0 : F p = none := by
    cases q : F p with
    | none => rfl
    | some o => obtain ⟨u, hu⟩ := (S.fr p o q).1.some; rw [hu] at hp; cases hp
  refine ⟨upd G p ho, e, α, ⟨?_, ?_, S.len, ?_, S.inj, S.pin, S.tab⟩, h _ e upd_same⟩
  · intro a o q
    by_cases ha : a = p
    · subst ha; rw [upd_same] at q ⊢; exact q
    · rw [upd_ne ha] at q ⊢; exact S.ext a o q
  · intro a o q
    obtain ⟨h1, h2⟩ := S.fr a o q
    have na : a ≠ p := fun z => by subst z; rw [f0] at q; cases q
    exact ⟨h1.mono e fun u hu => by rw [upd_ne na]; exact hu, by rw [upd_ne na]; exact h2⟩
  · intro i it hi
    cases it with
    | d y => obtain ⟨w, e1, e2⟩ := S.sl i _ hi; exact ⟨w, e1, e2.mono e⟩
    | o c' =>
      obtain ⟨e1, e2, e3, ho', e4, e5⟩ := S.sl i _ hi
      have na : α i ≠ p := fun z => by rw [z, hp] at e4; cases e4
      exact ⟨e1, by rw [upd_ne na]; exact e2, e3, ho', by rw [upd_ne na]; exact e4, e5.mono e⟩
end
end AV
set_option Elab.async false
set_option linter.all false
set_option maxRecDepth 100000
set_option maxHeartbeats 4000000
namespace AV
open PySem PySem.Spec PyProof.Rows L2
/-! ## the judgements -/
def tw (X : Cx) (e : Expr) : TE := fun σ H Q => ∀ (pins : List (Addr × Obj)) (s : Shared), Inv X pins σ H s → wpAny (model X.prog X.w) X.A (eval e X.env) (EP X pins σ Q) X.xe s
theorem pe_tw {X : Cx} {e : Expr} : PE X e (tw X e) := ⟨fun pins s σ H Q I h => h pins s I⟩
theorem tw_of {X : Cx} {e : Expr} {t : TE} (h : PE X e t) {σ : L2.St} {H : Hp} {Q : VK} (q : t σ H Q) : tw X e σ H Q := fun pins s I => h.run pins s σ H Q I q
def twT (X : Cx) (e : Expr) : TT := fun σ H Q => ∀ (pins : List (Addr × Obj)) (s : Shared), Inv X pins σ H s → wpAny (model X.prog X.w) X.A (isTrue e X.env (eval e X.env)) (TP X pins σ Q) X.xe s
theorem pt_tw {X : Cx} {e : Expr} : PT X e (twT X e) := ⟨fun pins s σ H Q I h => h pins s I⟩
theorem twT_of {X : Cx} {e : Expr} {t : TT} (h : PT X e t) {σ : L2.St} {H : Hp} {Q : Bool → Hp → Prop} (q : t σ H Q) : twT X e σ H Q := fun pins s I => h.run pins s σ H Q I q
def twW (X : Cx) (e : Expr) : TT := fun σ H Q => ∀ (wh : Sem Value) (pins : List (Addr × Obj)) (s : Shared), Inv X pins σ H s → wpAny (model X.prog X.w) X.A (isTrue e X.env wh) (TP X pins σ Q) X.xe s
theorem pw_tw {X : Cx} {e : Expr} : PW X e (twW X e) := ⟨fun wh pins s σ H Q I h => h wh pins s I⟩
theorem twW_of {X : Cx} {e : Expr} {t : TT} (h : PW X e t) {σ : L2.St} {H : Hp} {Q : Bool → Hp → Prop} (q : t σ H Q) : twW X e σ H Q := fun wh pins s I => h.run wh pins s σ H Q I q
def twA (X : Cx) (es : List Expr) : TA := fun σ H Q => ∀ (pos : Pos) (pins : List (Addr × Obj)) (s : Shared), Inv X pins σ H s → wpAny (model X.prog X.w) X.A (spliced (backTo pos (starEach es X.env))) (AP X pins σ Q) X.xe s
theorem pa_tw {X : Cx} {es : List Expr} : PA X es (twA X es) := ⟨fun pos pins s σ H Q I h => h pos pins s I⟩
theorem twA_of {X : Cx} {es : List Expr} {t : TA} (h : PA X es t) {σ : L2.St} {H : Hp} {Q : List V → Hp → Prop} (q : t σ H Q) : twA X es σ H Q := fun pos pins s I => h.run pos pins s σ H Q I q
def twS (X : Cx) (st : Stmt) : TS := fun D σ H => ∀ (pins : List (Addr × Obj)) (s : Shared), Inv X pins σ H s → wpAny (model X.prog X.w) X.A (exec st X.env) (SP X pins D) X.xe s
theorem ps_tw {X : Cx} {st : Stmt} : PS X st (twS X st) := ⟨fun pins s σ H D I h => h pins s I⟩
theorem twS_of {X : Cx} {st : Stmt} {t : TS} (h : PS X st t) {σ : L2.St} {H : Hp} {D : Ends} (q : t D σ H) : twS X st D σ H := fun pins s I => h.run pins s σ H D I q
def twB (X : Cx) (st : List Stmt) : TS := fun D σ H => ∀ (pins : List (Addr × Obj)) (s : Shared), Inv X pins σ H s → wpAny (model X.prog X.w) X.A (execs st X.env) (SP X pins D) X.xe s
theorem pss_tw {X : Cx} {st : List Stmt} : PSs X st (twB X st) := ⟨fun pins s σ H D I h => h pins s I⟩
theorem twB_of {X : Cx} {st : List Stmt} {t : TS} (h : PSs X st t) {σ : L2.St} {H : Hp} {D : Ends} (q : t D σ H) : twB X st D σ H := fun pins s I => h.run pins s σ H D I q
def twG (X : Cx) (tg : Expr) : TG := fun v σ H Q => ∀ (pins : List (Addr × Obj)) (s : Shared) (u : Value), Inv X pins σ H s → RelV v u → wpAny (model X.prog X.w) X.A (assign tg X.env u) (fun _ s' => ∃ σ' H', Inv X pins σ' H' s' ∧ Q σ' H') X.xe s
theorem pg_tw {X : Cx} {tg : Expr} : PG X tg (twG X tg) := ⟨fun pins s σ H v u Q I r h => h pins s u I r⟩
theorem twG_of {X : Cx} {tg : Expr} {t : TG} (h : PG X tg t) {v : V} {σ : L2.St} {H : Hp} {Q : L2.St → Hp → Prop} (q : t v σ H Q) : twG X tg v σ H Q := fun pins s u I r => h.run pins s σ H v u Q I r q
theorem tw.mono {X : Cx} {e : Expr} {σ : L2.St} {H : Hp} {Q Q' : VK} (h : tw X e σ H Q) (f : ∀ v H', Q v H' → Q' v H') : tw X e σ H Q' := fun pins s I => thn (h pins s I) fun u s' ⟨v, H', I', r, q⟩ => ⟨v, H', I', r, f _ _ q⟩
theorem twA.mono {X : Cx} {es : List Expr} {σ : L2.St} {H : Hp} {Q Q' : List V → Hp → Prop} (h : twA X es σ H Q) (f : ∀ v H', Q v H' → Q' v H') : twA X es σ H Q' := fun pos pins s I => thn (h pos pins s I) fun u s' ⟨v, H', I', r, q⟩ => ⟨v, H', I', r, f _ _ q⟩
theorem twT.mono {X : Cx} {e : Expr} {σ : L2.St} {H : Hp} {Q Q' : Bool → Hp → Prop} (h : twT X e σ H Q) (f : ∀ v H', Q v H' → Q' v H') : twT X e σ H Q' := fun pins s I => thn (h pins s I) fun u s' ⟨H', I', q⟩ => ⟨H', I', f _ _ q⟩
/-- an expression, from what the slots hold: its result and the slots behind -/
def VE (X : Cx) (pa : Pin) (e : Expr) (Γ : Gm) (Q : Rs → Gm → Prop) : Prop :=
  ∀ (F : Hp) (σ : L2.St) (H G : Hp), Sk0 X.K pa F σ H G Γ → tw X e σ H fun v H' => ∃ G' Γ' r, Ex G G' ∧ StR X.K pa F σ H' G' Γ' v r ∧ Q r Γ'
/-- the same, the result carried on -/
def VF (X : Cx) (pa : Pin) (e : Expr) (Γ : Gm) (Q : Rs → Gm → Prop) : Prop :=
  ∀ (F : Hp) (σ : L2.St) (H G : Hp), Sk0 X.K pa F σ H G Γ → tw X e σ H fun v H' => ∃ G' Γ' r, Ex G G' ∧ Sk0 X.K pa F σ H' G' Γ' ∧ Cv X.K σ G' v r ∧ Q r Γ'
def VT (X : Cx) (pa : Pin) (e : Expr) (Γ : Gm) (Q : Bool → Gm → Prop) : Prop :=
  ∀ (F : Hp) (σ : L2.St) (H G : Hp), Sk0 X.K pa F σ H G Γ → twT X e σ H fun b H' => ∃ G' Γ', Ex G G' ∧ Sk0 X.K pa F σ H' G' Γ' ∧ Q b Γ'
def VW (X : Cx) (pa : Pin) (e : Expr) (Γ : Gm) (Q : Bool → Gm → Prop) : Prop :=
  ∀ (F : Hp) (σ : L2.St) (H G : Hp), Sk0 X.K pa F σ H G Γ → twW X e σ H fun b H' => ∃ G' Γ', Ex G G' ∧ Sk0 X.K pa F σ H' G' Γ' ∧ Q b Γ'
inductive CvA (K : PySem.W.Frag) (σ : L2.St) (G : Hp) : List V → List Rs → Prop
  | nil : CvA K σ G [] []
  | cons {v : V} {vs : List V} {r : Rs} {rs : List Rs} : Cv K σ G v r → CvA K σ G vs rs → CvA K σ G (v :: vs) (r :: rs)
def VA (X : Cx) (pa : Pin) (es : List Expr) (Γ : Gm) (Q : List Rs → Gm → Prop) : Prop :=
  ∀ (F : Hp) (σ : L2.St) (H G : Hp), Sk0 X.K pa F σ H G Γ → twA X es σ H fun vs H' => ∃ G' Γ' rs, Ex G G' ∧ Sk0 X.K pa F σ H' G' Γ' ∧ CvA X.K σ G' vs rs ∧ Q rs Γ'
structure En where
  nx : Gm → Prop
  rt : Rs → Gm → Prop
  bk : Gm → Prop := fun _ => False
  ct : Gm → Prop := fun _ => False
def stk (K : PySem.W.Frag) (pa : Pin) (F G : Hp) (P : Gm → Prop) : L2.St → Hp → Prop := fun σ' H' => ∃ G' Γ', Ex G G' ∧ Sk0 K pa F σ' H' G' Γ' ∧ P Γ'
def En.lift (K : PySem.W.Frag) (pa : Pin) (F G : Hp) (D : En) : Ends where
  nx := stk K pa F G D.nx
  rt := fun v H' => ∃ σ' G' Γ' r, Ex G G' ∧ StR K pa F σ' H' G' Γ' v r ∧ D.rt r Γ'
  bk := stk K pa F G D.bk
  ct := stk K pa F G D.ct
def VS (X : Cx) (pa : Pin) (st : Stmt) (Γ : Gm) (D : En) : Prop :=
  ∀ (F : Hp) (σ : L2.St) (H G : Hp), Sk0 X.K pa F σ H G Γ → twS X st (D.lift X.K pa F G) σ H
def VB (X : Cx) (pa : Pin) (st : List Stmt) (Γ : Gm) (D : En) : Prop :=
  ∀ (F : Hp) (σ : L2.St) (H G : Hp), Sk0 X.K pa F σ H G Γ → twB X st (D.lift X.K pa F G) σ H
/-- storing a result at a target -/
def VG (X : Cx) (pa : Pin) (tg : Expr) (r : Rs) (Γ : Gm) (Q : Gm → Prop) : Prop :=
  ∀ (F : Hp) (σ : L2.St) (H G : Hp) (v : V), StR X.K pa F σ H G Γ v r → twG X tg v σ H (stk X.K pa F G Q)
theorem stk.mono {K : PySem.W.Frag} {pa : Pin} {F G G1 : Hp} {P Q : Gm → Prop} (e : Ex G G1) (f : ∀ Γ, P Γ → Q Γ) {σ : L2.St} {H : Hp} (h : stk K pa F G1 P σ H) : stk K pa F G Q σ H := by
  obtain ⟨G', Γ', e', S, p⟩ := h
  exact ⟨G', Γ', e.trans e', S, f _ p⟩
theorem SP.mono {X : Cx} {pins : List (Addr × Obj)} {D D' : Ends} {f : Flow} {s' : Shared} (h : SP X pins D f s') (hn : ∀ σ H, D.nx σ H → D'.nx σ H) (hr : ∀ v H, D.rt v H → D'.rt v H) (hb : ∀ σ H, D.bk σ H → D'.bk σ H) (hc : ∀ σ H, D.ct σ H → D'.ct σ H) : SP X pins D' f s' := by
  cases f with
  | next => obtain ⟨σ', H', I, q⟩ := h; exact ⟨σ', H', I, hn _ _ q⟩
  | brk => obtain ⟨σ', H', I, q⟩ := h; exact ⟨σ', H', I, hb _ _ q⟩
  | cont => obtain ⟨σ', H', I, q⟩ := h; exact ⟨σ', H', I, hc _ _ q⟩
  | ret u => obtain ⟨v, σ', H', I, r, q⟩ := h; exact ⟨v, σ', H', I, r, hr _ _ q⟩
theorem twB.mono {X : Cx} {st : List Stmt} {σ : L2.St} {H : Hp} {D D' : Ends} (h : twB X st D σ H) (hn : ∀ σ H, D.nx σ H → D'.nx σ H) (hr : ∀ v H, D.rt v H → D'.rt v H) (hb : ∀ σ H, D.bk σ H → D'.bk σ H) (hc : ∀ σ H, D.ct σ H → D'.ct σ H) : twB X st D' σ H :=
  fun pins s I => thn (h pins s I) fun f s' q => SP.mono q hn hr hb hc
theorem twS.mono {X : Cx} {st : Stmt} {σ : L2.St} {H : Hp} {D D' : Ends} (h : twS X st D σ H) (hn : ∀ σ H, D.nx σ H → D'.nx σ H) (hr : ∀ v H, D.rt v H → D'.rt v H) (hb : ∀ σ H, D.bk σ H → D'.bk σ H) (hc : ∀ σ H, D.ct σ H → D'.ct σ H) : twS X st D' σ H :=
  fun pins s I => thn (h pins s I) fun f s' q => SP.mono q hn hr hb hc
theorem En.lift_mono {K : PySem.W.Frag} {pa : Pin} {F G G1 : Hp} {D : En} (e : Ex G G1) :
    (∀ σ H, (D.lift K pa F G1).nx σ H → (D.lift K pa F G).nx σ H) ∧ (∀ v H, (D.lift K pa F G1).rt v H → (D.lift K pa F G).rt v H) ∧ (∀ σ H, (D.lift K pa F G1).bk σ H → (D.lift K pa F G).bk σ H) ∧ ∀ σ H, (D.lift K pa F G1).ct σ H → (D.lift K pa F G).ct σ H :=
  ⟨fun _ _ h => stk.mono e (fun _ p => p) h, fun v H ⟨σ', G', Γ', r, e', S, q⟩ => ⟨σ', G', Γ', r, e.trans e', S, q⟩, fun _ _ h => stk.mono e (fun _ p => p) h, fun _ _ h => stk.mono e (fun _ p => p) h⟩
section
variable {X : Cx} {pa : Pin} {e a b : Expr} {es : List Expr} {Γ Γ' : Gm} {Q Q' : Rs → Gm → Prop} {st : Stmt} {sts : List Stmt} {T T' : En} {pos : Pos}
theorem VE.mono (h : VE X pa e Γ Q) (f : ∀ r Γ', Q r Γ' → Q' r Γ') : VE X pa e Γ Q' := fun F σ H G S => (h F σ H G S).mono fun v H' ⟨G', Γ', r, e, S', q⟩ => ⟨G', Γ', r, e, S', f _ _ q⟩
theorem VE.vf (h : VE X pa e Γ fun r Γ' => Q r.fz Γ') : VF X pa e Γ Q := fun F σ H G S => (h F σ H G S).mono fun v H' ⟨G', Γ', r, e, S', q⟩ => by
  obtain ⟨G2, e2, S2⟩ := S'.fz
  exact ⟨G2, Γ', r.fz, e.trans e2, let ⟨α, S3, _⟩ := S2; ⟨α, S3⟩, S2.cv, q⟩
theorem VA.mono {Q Q' : List Rs → Gm → Prop} (h : VA X pa es Γ Q) (f : ∀ r Γ', Q r Γ' → Q' r Γ') : VA X pa es Γ Q' := fun F σ H G S => (h F σ H G S).mono fun v H' ⟨G', Γ', r, e, S', c, q⟩ => ⟨G', Γ', r, e, S', c, f _ _ q⟩
/-- from a rule of the layer -/
theorem ve_of {t : TE} (h : PE X e t) (q : ∀ (F : Hp) (σ : L2.St) (H G : Hp), Sk0 X.K pa F σ H G Γ → t σ H fun v H' => ∃ G' Γ' r, Ex G G' ∧ StR X.K pa F σ H' G' Γ' v r ∧ Q r Γ') : VE X pa e Γ Q := fun F σ H G S => tw_of h (q F σ H G S)
theorem CvA.mono {K : PySem.W.Frag} {σ : L2.St} {G G' : Hp} (e : Ex G G') : ∀ {vs : List V} {rs : List Rs}, CvA K σ G vs rs → CvA K σ G' vs rs
  | _, _, .nil => .nil
  | _, _, .cons r t => .cons (r.mono e) (t.mono e)
/-! ## names, constants -/
theorem ve_var {i : Nat} {x : Str} {it : It} (hN : X.N[i]? = some x) (hv : Vis X.env.scope x) (hd : (x == ("__debug__" : Str)) = false) (hcd : (x == ("__classdict__" : Str)) = false)
    (hi : Γ[i]? = some (some it)) (q : Q (match it with | .d x => .d x | .o _ => .s i) Γ) : VE X pa (.Name x pos) Γ Q := by
  refine ve_of (pe_var (i := i) hN hv hd hcd) fun F σ H G ⟨α, S⟩ => ?_
  have h := S.sl i it hi
  cases it with
  | d y => obtain ⟨v, e, r⟩ := h; exact ⟨v, e, G, Γ, .d y, Ex.refl G, ⟨α, S, r⟩, q⟩
  | o c => exact ⟨_, h.1, G, Γ, .s i, Ex.refl G, ⟨α, S, h.1, c, hi⟩, q⟩
theorem ve_val {v : V} {d : D} (h : PE X e (tC v)) (hr : ∀ (K : PySem.W.Frag) (G : Hp), Re K G v d) (q : Q (.d d) Γ) : VE X pa e Γ Q :=
  ve_of h fun F σ H G ⟨α, S⟩ => ⟨G, Γ, .d d, Ex.refl G, ⟨α, S, hr _ _⟩, q⟩
theorem ve_int {i : Int} {j : Nat} (q : Q (.d (.int i)) Γ) : VE X pa (.Constant (.int i) j pos) Γ Q := ve_val pe_int (fun _ _ => .int i) q
theorem ve_bl {b : Bool} {j : Nat} (q : Q (.d (.bl b)) Γ) : VE X pa (.Constant (.bool b) j pos) Γ Q := ve_val pe_bl (fun _ _ => .bl b) q
theorem ve_non {j : Nat} (q : Q (.d .non) Γ) : VE X pa (.Constant .none j pos) Γ Q := ve_val pe_non (fun _ _ => .non) q
theorem ve_str {x : Str} {j : Nat} (q : Q (.d (.str x)) Γ) : VE X pa (.Constant (.str x) j pos) Γ Q := ve_val pe_str (fun _ _ => .str x) q
/-- a constant of the module: an int -/
theorem ve_gint {x : Str} {i : Int} {t : Tok} (hg : Gl X x) (hm : X.mg x = some (.int i t)) (hd : (x == ("__debug__" : Str)) = false) (q : Q (.d (.int i)) Γ) : VE X pa (.Name x pos) Γ Q :=
  ve_val (v := .int i) (pe_glob hg hm ⟨t, rfl⟩ hd) (fun _ _ => .int i) q
theorem ve_gref {x : Str} {a : Addr} (hg : Gl X x) (hm : X.mg x = some (.ref a)) (hd : (x == ("__debug__" : Str)) = false) (q : Q (.d (.obj a)) Γ) : VE X pa (.Name x pos) Γ Q :=
  ve_val (v := .ref a) (pe_glob hg hm rfl hd) (fun _ _ => .obj a) q
/-! ## arguments -/
theorem va_nil {Q : List Rs → Gm → Prop} (q : Q [] Γ) : VA X pa [] Γ Q := fun F σ H G S => twA_of pa_nil ⟨G, Γ, [], Ex.refl G, S, .nil, q⟩
theorem va_cons {Q : List Rs → Gm → Prop} (h : VE X pa e Γ fun r Γ1 => VA X pa es Γ1 fun rs Γ2 => Q (r.fz :: rs) Γ2) (hs : starEach (e :: es) X.env = (false, eval e X.env) :: starEach es X.env := by rfl) : VA X pa (e :: es) Γ Q := fun F σ H G S => by
  refine twA_of (pa_cons pe_tw pa_tw hs) ?_
  refine (h F σ H G S).mono fun v H1 ⟨G1, Γ1, r, e1, S1, q⟩ => ?_
  obtain ⟨G2, e2, S2⟩ := S1.fz
  have cv := S2.cv
  obtain ⟨α, S3, _⟩ := S2
  refine (q F σ H1 G2 ⟨α, S3⟩).mono fun vs H2 ⟨G3, Γ3, rs, e3, S4, cvs, q3⟩ => ?_
  exact ⟨G3, Γ3, r.fz :: rs, (e1.trans e2).trans e3, S4, .cons (cv.mono e3) cvs, q3⟩
/-! ## statements in a row -/
theorem vb_nil (q : T.nx Γ) : VB X pa [] Γ T := fun F σ H G S => twB_of pss_nil ⟨G, Γ, Ex.refl G, S, q⟩
theorem vb_cons (h : VS X pa st Γ { T with nx := fun Γ1 => VB X pa sts Γ1 T }) : VB X pa (st :: sts) Γ T := fun F σ H G S => by
  refine twB_of (pss_cons ps_tw pss_tw) ?_
  refine (h F σ H G S).mono (fun σ1 H1 q => ?_) (fun v H1 q => q) (fun σ1 H1 q => q) (fun σ1 H1 q => q)
  obtain ⟨G1, Γ1, e1, S1, q⟩ := q
  have m := En.lift_mono (K := X.K) (pa := pa) (F := F) (D := T) e1
  exact (q F σ1 H1 G1 S1).mono m.1 m.2.1 m.2.2.1 m.2.2.2
/-- told with less, or as something else -/
theorem VB.weak (h : VB X pa sts Γ T) (hn : ∀ Γ, T.nx Γ → T'.nx Γ) (hr : ∀ r Γ, T.rt r Γ → T'.rt r Γ) (hb : ∀ Γ, T.bk Γ → T'.bk Γ) (hc : ∀ Γ, T.ct Γ → T'.ct Γ) : VB X pa sts Γ T' := fun F σ H G S =>
  (h F σ H G S).mono (fun _ _ q => stk.mono (Ex.refl G) hn q) (fun v H1 ⟨σ', G', Γ', r, e', S, q⟩ => ⟨σ', G', Γ', r, e', S, hr _ _ q⟩) (fun _ _ q => stk.mono (Ex.refl G) hb q) (fun _ _ q => stk.mono (Ex.refl G) hc q)
/-- a cut: what follows is shown once -/
theorem vb_cut (M : Gm → Prop) (h : VS X pa st Γ { T with nx := M }) (k : ∀ Γ1, M Γ1 → VB X pa sts Γ1 T) : VB X pa (st :: sts) Γ T :=
  vb_cons fun F σ H G S => (h F σ H G S).mono (fun _ _ q => stk.mono (Ex.refl G) k q) (fun _ _ q => q) (fun _ _ q => q) (fun _ _ q => q)
theorem vs_pass (q : T.nx Γ) : VS X pa (.Pass pos) Γ T := fun F σ H G S => twS_of ps_pass ⟨G, Γ, Ex.refl G, S, q⟩
theorem vs_break (q : T.bk Γ) : VS X pa (.Break pos) Γ T := fun F σ H G S => twS_of ps_break ⟨G, Γ, Ex.refl G, S, q⟩
theorem vs_cont (q : T.ct Γ) : VS X pa (.Continue pos) Γ T := fun F σ H G S => twS_of ps_continue ⟨G, Γ, Ex.refl G, S, q⟩
theorem vs_expr (h : VE X pa e Γ fun _ Γ1 => T.nx Γ1) (hs : swapsWith e none pos.line X.env = pure false := by rfl) : VS X pa (.Expr e pos) Γ T := fun F σ H G S =>
  twS_of (ps_expr pe_tw hs) ((h F σ H G S).mono fun v H1 ⟨G1, Γ1, r, e1, ⟨α, S1, _⟩, q⟩ => ⟨G1, Γ1, e1, ⟨α, S1⟩, q⟩)
theorem vs_ret (h : VE X pa e Γ fun r Γ1 => T.rt r Γ1) : VS X pa (.Return (some e) pos) Γ T := fun F σ H G S =>
  twS_of (ps_ret pe_tw) ((h F σ H G S).mono fun v H1 ⟨G1, Γ1, r, e1, S1, q⟩ => ⟨σ, G1, Γ1, r, e1, S1, q⟩)
theorem vs_retN (q : T.rt (.d .non) Γ) : VS X pa (.Return none pos) Γ T := fun F σ H G S =>
  twS_of ps_retN ⟨σ, G, Γ, .d .non, Ex.refl G, let ⟨α, S'⟩ := S; ⟨α, S', .non⟩, q⟩
theorem vs_if {c : Expr} {u v : List Stmt} (h : VT X pa c Γ fun b Γ1 => (b = true → VB X pa u Γ1 T) ∧ (b = false → VB X pa v Γ1 T)) : VS X pa (.If c u v pos) Γ T := fun F σ H G S => by
  refine twS_of (ps_if pt_tw pss_tw pss_tw) ?_
  refine (h F σ H G S).mono fun b H1 ⟨G1, Γ1, e1, S1, q1, q2⟩ => ?_
  have m := En.lift_mono (K := X.K) (pa := pa) (F := F) (D := T) e1
  cases b with
  | true => exact (q1 rfl F σ H1 G1 S1).mono m.1 m.2.1 m.2.2.1 m.2.2.2
  | false => exact (q2 rfl F σ H1 G1 S1).mono m.1 m.2.1 m.2.2.1 m.2.2.2
theorem vs_never (h : False) : VS X pa st Γ T := h.elim
/-! ## storing -/
theorem Sk.setD {K : PySem.W.Frag} {F : Hp} {σ : L2.St} {H G : Hp} {α : Nat → Addr} {v : V} {y : D} {i : Nat} (S : Sk K pa F σ H G Γ α) (hp : pa i = none) (h : Re K G v y) : Sk K pa F (σ.set i (some v)) H G (Γ.set i (some (.d y))) α where
  ext := S.ext
  fr := S.fr
  tab := S.tab
  len := by simpa using S.len
  sl := fun j it hj => by
    by_cases e : i = j
    · subst e
      have hi : i < Γ.length := by
        have := (List.getElem?_eq_some_iff.mp hj).1
        simpa using this
      rw [List.getElem?_set_self hi] at hj
      cases hj
      exact ⟨v, by rw [List.getElem?_set_self (by rw [S.len]; exact hi)], h⟩
    · rw [List.getElem?_set_ne e] at hj
      have q := S.sl j it hj
      cases it with
      | d z => obtain ⟨w, e1, e2⟩ := q; exact ⟨w, by rw [List.getElem?_set_ne e]; exact e1, e2⟩
      | o c => obtain ⟨e1, e2⟩ := q; exact ⟨by rw [List.getElem?_set_ne e]; exact e1, e2⟩
  inj := fun j k c c' hj hk => by
    by_cases e : i = j
    · subst e
      have hi : i < Γ.length := by
        have := (List.getElem?_eq_some_iff.mp hj).1
        simpa using this
      rw [List.getElem?_set_self hi] at hj; cases hj
    · by_cases e' : i = k
      · subst e'
        have hi : i < Γ.length := by
          have := (List.getElem?_eq_some_iff.mp hk).1
          simpa using this
        rw [List.getElem?_set_self hi] at hk; cases hk
      · rw [List.getElem?_set_ne e] at hj
        rw [List.getElem?_set_ne e'] at hk
        exact S.inj j k c c' hj hk
  pin := fun j p hj => by
    obtain ⟨e1, c, e2⟩ := S.pin j p hj
    refine ⟨e1, c, ?_⟩
    rw [List.getElem?_set_ne (fun z => by rw [z, hj] at hp; cases hp)]
    exact e2
theorem set_of {i : Nat} {w : Option It} {Γ : Gm} {j : Nat} {it : It} (h : (Γ.set i w)[j]? = some (some it)) : (i = j ∧ i < Γ.length ∧ w = some it) ∨ (i ≠ j ∧ Γ[j]? = some (some it)) := by
  by_cases e : i = j
  · subst e
    have hi : i < Γ.length := by
      have := (List.getElem?_eq_some_iff.mp h).1
      simpa using this
    rw [List.getElem?_set_self hi] at h
    exact .inl ⟨rfl, hi, Option.some.inj h⟩
  · rw [List.getElem?_set_ne e] at h
    exact .inr ⟨e, h⟩
def putA (α : Nat → Addr) (i : Nat) (p : Addr) : Nat → Addr := fun j => if j = i then p else α j
theorem putA_same {α : Nat → Addr} {i : Nat} {p : Addr} : putA α i p i = p := if_pos rfl
theorem putA_ne {α : Nat → Addr} {i j : Nat} {p : Addr} (h : j ≠ i) : putA α i p j = α j := if_neg h
/-- a new object becomes a slot's own -/
theorem Sk.setO {K : PySem.W.Frag} {F : Hp} {σ : L2.St} {H G : Hp} {α : Nat → Addr} {c : C} {i : Nat} {p : Addr} {ho : HO} (S : Sk K pa F σ H G Γ α) (hp : pa i = none) (g0 : G p = none) (f0 : F p = none) (na : ∀ i c, Γ[i]? = some (some (.o c)) → α i ≠ p) (hH : H p = some ho) (rc : RC K G ho c) :
    Sk K pa F (σ.set i (some (.ref p))) H G (Γ.set i (some (.o c))) (putA α i p) where
  ext := S.ext
  fr := S.fr
  tab := S.tab
  len := by simpa using S.len
  sl := fun j it hj => by
    rcases set_of hj with ⟨e, hi, e2⟩ | ⟨e, hj⟩
    · subst e; cases e2
      refine ⟨by rw [List.getElem?_set_self (by rw [S.len]; exact hi), putA_same], ?_⟩
      rw [putA_same]; exact ⟨g0, f0, ho, hH, rc⟩
    · have q := S.sl j it hj
      cases it with
      | d z => obtain ⟨w, e1, e2⟩ := q; exact ⟨w, by rw [List.getElem?_set_ne e]; exact e1, e2⟩
      | o c =>
        obtain ⟨e1, e2⟩ := q
        refine ⟨?_, ?_⟩
        · rw [List.getElem?_set_ne e, putA_ne (Ne.symm e)]; exact e1
        · rw [putA_ne (Ne.symm e)]; exact e2
  inj := fun j k c1 c2 hj hk => by
    rcases set_of hj with ⟨e, hi, e2⟩ | ⟨e, hj⟩
    · rcases set_of hk with ⟨e', _, _⟩ | ⟨e', hk⟩
      · intro _; rw [← e, ← e']
      · rw [← e, putA_same, putA_ne (Ne.symm e')]; intro z; exact absurd z.symm (na k _ hk)
    · rcases set_of hk with ⟨e', _, _⟩ | ⟨e', hk⟩
      · rw [← e', putA_same, putA_ne (Ne.symm e)]; intro z; exact absurd z (na j _ hj)
      · rw [putA_ne (Ne.symm e), putA_ne (Ne.symm e')]; exact S.inj j k c1 c2 hj hk
  pin := fun j p hj => by
    have ne : i ≠ j := fun z => by rw [z, hj] at hp; cases hp
    obtain ⟨e1, c, e2⟩ := S.pin j p hj
    refine ⟨by rw [putA_ne (Ne.symm ne)]; exact e1, c, ?_⟩
    rw [List.getElem?_set_ne ne]; exact e2
/-- a store told: data, or a new object -/
def stored (Γ : Gm) (i : Nat) : Rs → (Gm → Prop) → Prop
  | .d x, Q => Q (Γ.set i (some (.d x)))
  | .n c, Q => Q (Γ.set i (some (.o c)))
  | .s _, _ => False
theorem vg_name {i : Nat} {x : Str} {r : Rs} {Q : Gm → Prop} (hN : X.N.Nodup) (hi : X.N[i]? = some x) (hx : Loc X.env.scope x) (hp : pa i = none) (q : stored Γ i r Q) (hf : X.fn x = true ∨ X.env.scope.names.lookup x = some .local := by first | exact .inl rfl | exact .inr rfl | assumption) : VG X pa (.Name x pos) r Γ Q := fun F σ H G v S => by
  refine twG_of (pg_name hN hi hx hf) ?_
  obtain ⟨α, S, rv⟩ := S
  cases r with
  | d y => exact ⟨G, _, Ex.refl G, ⟨α, S.setD hp rv⟩, q⟩
  | n c => obtain ⟨p, ho, rfl, g0, f0, na, hH, rc⟩ := rv; exact ⟨G, _, Ex.refl G, ⟨_, S.setO hp g0 f0 na hH rc⟩, q⟩
  | s j => exact False.elim q
theorem vs_asg {tg : Expr} (h : VE X pa e Γ fun r Γ1 => VG X pa tg r Γ1 T.nx) (hs : swapsWithSole [tg] e pos.line X.env = pure false := by rfl) (hw : swappedStores [tg] e X.env = pure none := by rfl)
    (h1 : (assignEach [tg] X.env).map (·.2) = [assign tg X.env] := by rfl) : VS X pa (.Assign [tg] e pos) Γ T := fun F σ H G S => by
  refine twS_of (ps_asg pe_tw pg_tw hs hw h1) ?_
  refine (h F σ H G S).mono fun v H1 ⟨G1, Γ1, r, e1, S1, q⟩ => ?_
  intro pins s u I rv
  exact thn (q F σ H1 G1 v S1 pins s u I rv) fun _ s' ⟨σ', H', I', q'⟩ => ⟨σ', H', I', stk.mono e1 (fun _ p => p) q'⟩
/-- name = value -/
theorem vs_set {i : Nat} {x : Str} {pos' : Pos} (hN : X.N.Nodup) (hi : X.N[i]? = some x) (hx : Loc X.env.scope x) (hp : pa i = none) (h : VE X pa e Γ fun r Γ1 => stored Γ1 i r T.nx)
    (hs : swapsWith e (some (.Name x pos')) pos.line X.env = pure false := by rfl) (hf : X.fn x = true ∨ X.env.scope.names.lookup x = some .local := by first | exact .inl rfl | exact .inr rfl | assumption) : VS X pa (.Assign [.Name x pos'] e pos) Γ T := fun F σ H G S => by
  refine twS_of (ps_set hN hi hx pe_tw hs hf) ?_
  refine (h F σ H G S).mono fun v H1 ⟨G1, Γ1, r, e1, S1, q⟩ => ?_
  have g := vg_name (X := X) (pos := pos') hN hi hx hp q hf F σ H1 G1 v S1
  obtain ⟨α, S, rv⟩ := S1
  show stk X.K pa F G T.nx _ _
  cases r with
  | d y => exact ⟨G1, _, e1, ⟨α, S.setD hp rv⟩, q⟩
  | n c => obtain ⟨p, ho, rfl, g0, f0, na, hH, rc⟩ := rv; exact ⟨G1, _, e1, ⟨_, S.setO hp g0 f0 na hH rc⟩, q⟩
  | s j => exact False.elim q
/-- a slot's own object is told as data from now on -/
theorem Sk.frz {K : PySem.W.Frag} {F : Hp} {σ : L2.St} {H G : Hp} {α : Nat → Addr} {c : C} {i : Nat} (S : Sk K pa F σ H G Γ α) (hp : pa i = none) (h : Γ[i]? = some (some (.o c))) : ∃ G', Ex G G' ∧ Sk K pa F σ H G' (Γ.set i (some (.d c.toD))) α := by
  obtain ⟨e1, g0, f0, ho, hH, rc⟩ := S.ow h
  have e : Ex G (upd G (α i) ho) := Ex.new g0
  refine ⟨_, e, ⟨fun a o q => ?_, fun a o q => ?_, by simpa using S.len, fun j it hj => ?_, fun j k c1 c2 hj hk => ?_, fun j p hj => ?_, S.tab⟩⟩
  · by_cases ha : a = α i
    · subst ha; rw [upd_same] at q; cases q; exact hH
    · rw [upd_ne ha] at q; exact S.ext a o q
  · obtain ⟨h1, h2⟩ := S.fr a o q
    exact ⟨h1.mono e fun _ q => q, by rw [upd_ne (fun z => by subst z; rw [f0] at q; cases q)]; exact h2⟩
  · rcases set_of hj with ⟨e2, hi, e3⟩ | ⟨e2, hj⟩
    · subst e2; cases e3
      exact ⟨_, e1, rc.re e upd_same⟩
    · have q := S.sl j it hj
      cases it with
      | d z => obtain ⟨w, e1, e2⟩ := q; exact ⟨w, e1, e2.mono e⟩
      | o c' =>
        obtain ⟨q1, q2, q3, ho', q4, q5⟩ := q
        exact ⟨q1, by rw [upd_ne (fun z => e2 (S.inj j i _ _ hj h z).symm)]; exact q2, q3, ho', q4, q5.mono e⟩
  · rcases set_of hj with ⟨_, _, e3⟩ | ⟨e2, hj⟩
    · cases e3
    · rcases set_of hk with ⟨_, _, e3⟩ | ⟨e2, hk⟩
      · cases e3
      · exact S.inj j k c1 c2 hj hk
  · obtain ⟨q1, c', q2⟩ := S.pin j p hj
    exact ⟨q1, c', by rw [List.getElem?_set_ne (fun z => by rw [z, hj] at hp; cases hp)]; exact q2⟩
theorem vb_frz (i : Nat) {c : C} (hp : pa i = none) (h : Γ[i]? = some (some (.o c))) (q : VB X pa sts (Γ.set i (some (.d c.toD))) T) : VB X pa sts Γ T := fun F σ H G ⟨α, S⟩ => by
  obtain ⟨G', e, S'⟩ := S.frz hp h
  have m := En.lift_mono (K := X.K) (pa := pa) (F := F) (D := T) e
  exact (q F σ H G' ⟨α, S'⟩).mono m.1 m.2.1 m.2.2.1 m.2.2.2
theorem ve_frz (i : Nat) {c : C} (hp : pa i = none) (h : Γ[i]? = some (some (.o c))) (q : VE X pa e (Γ.set i (some (.d c.toD))) Q) : VE X pa e Γ Q := fun F σ H G ⟨α, S⟩ => by
  obtain ⟨G', e, S'⟩ := S.frz hp h
  exact (q F σ H G' ⟨α, S'⟩).mono fun v H' ⟨G2, Γ2, r, e2, S2, q2⟩ => ⟨G2, Γ2, r, e.trans e2, S2, q2⟩
/-- slots may be forgotten -/
theorem Sk.forget {K : PySem.W.Frag} {F : Hp} {σ : L2.St} {H G : Hp} {α : Nat → Addr} {i : Nat} (S : Sk K pa F σ H G Γ α) (hp : pa i = none) : Sk K pa F σ H G (Γ.set i none) α where
  ext := S.ext
  fr := S.fr
  tab := S.tab
  len := by simpa using S.len
  sl := fun j it hj => by
    rcases set_of hj with ⟨_, _, e⟩ | ⟨_, hj⟩
    · cases e
    · exact S.sl j it hj
  inj := fun j k c c' hj hk => by
    rcases set_of hj with ⟨_, _, e⟩ | ⟨_, hj⟩
    · cases e
    · rcases set_of hk with ⟨_, _, e⟩ | ⟨_, hk⟩
      · cases e
      · exact S.inj j k c c' hj hk
  pin := fun j p hj => by
    obtain ⟨q1, c', q2⟩ := S.pin j p hj
    exact ⟨q1, c', by rw [List.getElem?_set_ne (fun z => by rw [z, hj] at hp; cases hp)]; exact q2⟩
theorem vb_forget (i : Nat) (hp : pa i = none) (q : VB X pa sts (Γ.set i none) T) : VB X pa sts Γ T := fun F σ H G ⟨α, S⟩ => q F σ H G ⟨α, S.forget hp⟩
end
end AV
set_option Elab.async false
set_option linter.all false
set_option maxRecDepth 100000
set_option maxHeartbeats 4000000
namespace AV
open PySem PySem.Spec PyProof.Rows L2
/-! ## sequences told -/
def sq (Γ : Gm) (r : Rs) : Option (List D) := match rd Γ r with
  | some (.lst ds) => some ds
  | some (.tup ds) => some ds
  | some (.ktp ds) => some ds
  | _ => none
section
variable {K : PySem.W.Frag} {pa : Pin} {F : Hp} {σ : L2.St} {H H' G G' : Hp} {Γ Γ' : Gm} {α : Nat → Addr} {v : V} {r : Rs} {x : D} {ds : List D}
theorem rd_slot {i : Nat} (h : rd Γ (.s i) = some x) : ∃ c, Γ[i]? = some (some (.o c)) ∧ x = c.toD := by
  cases q : Γ[i]? with
  | none => simp only [rd, q] at h; cases h
  | some w =>
    simp only [rd, q] at h
    cases w with
    | none => cases h
    | some it =>
      cases it with
      | d y => cases h
      | o c => cases h; exact ⟨c, rfl, rfl⟩
theorem Cv.lst (h : Cv K σ G v r) (S : Sk K pa F σ H G Γ α) (e : rd Γ r = some (.lst ds)) : ∃ a vs, v = .ref a ∧ H a = some (.lst vs) ∧ ReA K G vs ds := by
  cases r with
  | d y => cases e; cases h with | lst a b => exact ⟨_, _, rfl, S.ext _ _ a, b⟩
  | n c => exact h.elim
  | s i =>
    obtain ⟨c, hc, ec⟩ := rd_slot e
    cases c with
    | l ds' =>
      cases ec
      obtain ⟨e2, _, _, ho, hp, rc⟩ := S.ow hc
      have h' : σ[i]? = some (some v) := h
      rw [h'] at e2; cases e2
      obtain ⟨vs, rfl, ra⟩ := rc
      exact ⟨_, vs, rfl, hp, ra⟩
    | k _ => cases ec
    | t _ => cases ec
    | i _ _ => cases ec
theorem Cv.tup (h : Cv K σ G v r) (S : Sk K pa F σ H G Γ α) (e : rd Γ r = some (.tup ds)) : ∃ a vs, v = .ref a ∧ G a = some (.tup vs) ∧ ReA K G vs ds := by
  cases r with
  | d y => cases e; cases h with | tup a b => exact ⟨_, _, rfl, a, b⟩
  | n c => exact h.elim
  | s i =>
    obtain ⟨c, hc, ec⟩ := rd_slot e
    cases c <;> cases ec
theorem Cv.ktp (h : Cv K σ G v r) (S : Sk K pa F σ H G Γ α) (e : rd Γ r = some (.ktp ds)) : ∃ a vs, v = .ref a ∧ SqT K H a vs ∧ ReA K G vs ds := by
  cases r with
  | d y => cases e; cases h with | ktp a b => exact ⟨_, _, rfl, S.ext.sqt a, b⟩
  | n c => exact h.elim
  | s i =>
    obtain ⟨c, hc, ec⟩ := rd_slot e
    cases c <;> cases ec
theorem sq_cases (h : sq Γ r = some ds) : rd Γ r = some (.lst ds) ∨ rd Γ r = some (.tup ds) ∨ rd Γ r = some (.ktp ds) := by
  unfold sq at h
  cases q : rd Γ r with
  | none => rw [q] at h; cases h
  | some y =>
    rw [q] at h
    cases y <;> first | (cases h; exact .inl rfl) | (cases h; exact .inr (.inl rfl)) | (cases h; exact .inr (.inr rfl)) | cases h
theorem Cv.seq (h : Cv K σ G v r) (S : Sk K pa F σ H G Γ α) (e : sq Γ r = some ds) : ∃ a vs, v = .ref a ∧ (SqL K H a vs ∨ SqT K H a vs) ∧ ReA K G vs ds := by
  rcases sq_cases e with e | e | e
  · obtain ⟨a, vs, h1, h2, h3⟩ := h.lst S e; exact ⟨a, vs, h1, .inl (SqL.of h2), h3⟩
  · obtain ⟨a, vs, h1, h2, h3⟩ := h.tup S e; exact ⟨a, vs, h1, .inr (SqT.of (S.ext _ _ h2)), h3⟩
  · obtain ⟨a, vs, h1, h2, h3⟩ := h.ktp S e; exact ⟨a, vs, h1, .inr h2, h3⟩
theorem Cv.lay (h : Cv K σ G v (.d x)) : Re K G v x := h
theorem CvA.one {vs : List V} {r : Rs} (h : CvA K σ G vs [r]) : ∃ v, vs = [v] ∧ Cv K σ G v r := by
  cases h with | cons a b => cases b; exact ⟨_, rfl, a⟩
theorem CvA.two {vs : List V} {r s : Rs} (h : CvA K σ G vs [r, s]) : ∃ v w, vs = [v, w] ∧ Cv K σ G v r ∧ Cv K σ G w s := by
  cases h with | cons a b => cases b with | cons c d => cases d; exact ⟨_, _, rfl, a, c⟩
theorem Cv.intE {i : Int} (h : Cv K σ G v (.d (.int i))) : v = .int i := Re.intE h
theorem Cv.blE {b : Bool} (h : Cv K σ G v (.d (.bl b))) : v = .bl b := Re.blE h
theorem Cv.strE {z : Str} (h : Cv K σ G v (.d (.str z))) : v = .str z := Re.strE h
end
/-! ## the end of a rule -/
/-- what a rule of the layer is to reach -/
abbrev Goal (X : Cx) (pa : Pin) (F : Hp) (σ : L2.St) (G : Hp) (Q : Rs → Gm → Prop) : VK := fun v H' => ∃ G' Γ' r, Ex G G' ∧ StR X.K pa F σ H' G' Γ' v r ∧ Q r Γ'
section
variable {X : Cx} {pa : Pin} {F : Hp} {σ : L2.St} {H G G1 : Hp} {Γ : Gm} {α : Nat → Addr} {Q : Rs → Gm → Prop} {v : V}
theorem Goal.trans (e : Ex G G1) {H : Hp} (h : Goal X pa F σ G1 Q v H) : Goal X pa F σ G Q v H := let ⟨G', Γ', r, e', S, q⟩ := h; ⟨G', Γ', r, e.trans e', S, q⟩
theorem goal_d (S : Sk X.K pa F σ H G Γ α) {x : D} (h : Re X.K G v x) (q : Q (.d x) Γ) : Goal X pa F σ G Q v H := ⟨G, Γ, .d x, Ex.refl G, ⟨α, S, h⟩, q⟩
theorem goal_int (S : Sk X.K pa F σ H G Γ α) {i : Int} (q : Q (.d (.int i)) Γ) : Goal X pa F σ G Q (.int i) H := goal_d S (.int i) q
theorem goal_bl (S : Sk X.K pa F σ H G Γ α) {b : Bool} (q : Q (.d (.bl b)) Γ) : Goal X pa F σ G Q (.bl b) H := goal_d S (.bl b) q
theorem goal_str (S : Sk X.K pa F σ H G Γ α) {z : Str} (q : Q (.d (.str z)) Γ) : Goal X pa F σ G Q (.str z) H := goal_d S (.str z) q
theorem goal_l (S : Sk X.K pa F σ H G Γ α) {p : Addr} {vs : List V} {ds : List D} (hp : H p = none) (ra : ReA X.K G vs ds) (q : Q (.n (.l ds)) Γ) : Goal X pa F σ G Q (.ref p) (upd H p (.lst vs)) :=
  ⟨G, Γ, .n (.l ds), Ex.refl G, S.new hp ⟨vs, rfl, ra⟩, q⟩
theorem goal_t (S : Sk X.K pa F σ H G Γ α) {p : Addr} {vs : List V} {ds : List D} (hp : H p = none) (ra : ReA X.K G vs ds) (q : Q (.d (.tup ds)) Γ) : Goal X pa F σ G Q (.ref p) (upd H p (.tup vs)) := by
  obtain ⟨G', e, S'⟩ := S.newD (x := .tup ds) hp fun G' e h => .tup h (ra.mono e)
  exact ⟨G', Γ, .d (.tup ds), e, S', q⟩
end
/-! ## operators -/
section
variable {X : Cx} {pa : Pin} {e a b : Expr} {es : List Expr} {Γ Γ' : Gm} {Q Q' : Rs → Gm → Prop} {pos : Pos}
/-- two operands in a row -/
theorem ve_two {e : Expr} {r2 : R2} {R : Rs → Rs → Gm → Prop} (hp : PE X e (tOp r2 (tw X a) (tw X b)))
    (sem : ∀ (F : Hp) (σ : L2.St) (H G0 G : Hp) (Γ : Gm) (α : Nat → Addr) (v w : V) (r s : Rs), Ex G0 G → Sk X.K pa F σ H G Γ α → Cv X.K σ G v r → Cv X.K σ G w s → R r s Γ → r2 v w H (Goal X pa F σ G0 Q))
    (h : VE X pa a Γ fun r Γ1 => VE X pa b Γ1 fun s Γ2 => R r.fz s.fz Γ2) : VE X pa e Γ Q := ve_of hp fun F σ H G S => by
  refine (h F σ H G S).mono fun v H1 ⟨G1, Γ1, r, e1, S1, q⟩ => ?_
  obtain ⟨G2, e2, S2⟩ := S1.fz
  have cv := S2.cv
  obtain ⟨α, S3, _⟩ := S2
  refine (q F σ H1 G2 ⟨α, S3⟩).mono fun w H2 ⟨G3, Γ3, s, e3, S4, q3⟩ => ?_
  obtain ⟨G4, e4, S5⟩ := S4.fz
  have cw := S5.cv
  obtain ⟨α', S6, _⟩ := S5
  exact sem F σ H2 G G4 Γ3 α' v w _ _ (((e1.trans e2).trans e3).trans e4) S6 ((cv.mono e3).mono e4) cw q3
theorem vt_of {t : TT} (h : PT X e t) {Q : Bool → Gm → Prop} (q : ∀ (F : Hp) (σ : L2.St) (H G : Hp), Sk0 X.K pa F σ H G Γ → t σ H fun b H' => ∃ G' Γ', Ex G G' ∧ Sk0 X.K pa F σ H' G' Γ' ∧ Q b Γ') : VT X pa e Γ Q := fun F σ H G S => twT_of h (q F σ H G S)
/-- a test by its value -/
theorem vt_val {Q : Bool → Gm → Prop} (h : VE X pa e Γ fun r Γ1 => ∃ b, r = .d (.bl b) ∧ Q b Γ1) (he : ∀ whole, isTrue e X.env whole = (do let v ← whole; standAt e.pos; holding [v] (truthy v)) := by intro _; rfl) : VT X pa e Γ Q :=
  vt_of (pt_val pe_tw he) fun F σ H G S => (h F σ H G S).mono fun v H1 ⟨G1, Γ1, r, e1, ⟨α, S1, rv⟩, b, er, q⟩ => by
    subst er
    exact ⟨b, Re.blE rv, G1, Γ1, e1, ⟨α, S1⟩, q⟩
theorem vt_two {e : Expr} {r2 : R2} {Q : Bool → Gm → Prop} {R : Rs → Rs → Gm → Prop} (hp : PT X e (tTest (tOp r2 (tw X a) (tw X b))))
    (sem : ∀ (F : Hp) (σ : L2.St) (H G0 G : Hp) (Γ : Gm) (α : Nat → Addr) (v w : V) (r s : Rs), Ex G0 G → Sk X.K pa F σ H G Γ α → Cv X.K σ G v r → Cv X.K σ G w s → R r s Γ → r2 v w H (Goal X pa F σ G0 fun r Γ1 => ∃ b, r = .d (.bl b) ∧ Q b Γ1))
    (mono : ∀ v w H (Q1 Q2 : VK), (∀ z H', Q1 z H' → Q2 z H') → r2 v w H Q1 → r2 v w H Q2)
    (h : VE X pa a Γ fun r Γ1 => VE X pa b Γ1 fun s Γ2 => R r.fz s.fz Γ2) : VT X pa e Γ Q := vt_of hp fun F σ H G S => by
  refine (h F σ H G S).mono fun v H1 ⟨G1, Γ1, r, e1, S1, q⟩ => ?_
  obtain ⟨G2, e2, S2⟩ := S1.fz
  have cv := S2.cv
  obtain ⟨α, S3, _⟩ := S2
  refine (q F σ H1 G2 ⟨α, S3⟩).mono fun w H2 ⟨G3, Γ3, s, e3, S4, q3⟩ => ?_
  obtain ⟨G4, e4, S5⟩ := S4.fz
  have cw := S5.cv
  obtain ⟨α', S6, _⟩ := S5
  refine mono v w H2 _ _ ?_ (sem F σ H2 G G4 Γ3 α' v w _ _ (((e1.trans e2).trans e3).trans e4) S6 ((cv.mono e3).mono e4) cw q3)
  rintro z H' ⟨G', Γ', r', e', ⟨α2, S', rv⟩, b, er, q'⟩
  subst er
  exact ⟨b, Re.blE rv, G', Γ', e', ⟨α2, S'⟩, q'⟩
/-! ### ints -/
def RI (C : Int → Int → Prop) (g : Int → Int → D) (Q : Rs → Gm → Prop) : Rs → Rs → Gm → Prop := fun r s Γ => ∃ i j, r = .d (.int i) ∧ s = .d (.int j) ∧ C i j ∧ Q (.d (g i j)) Γ
def RI0 (g : Int → Int → D) (Q : Rs → Gm → Prop) : Rs → Rs → Gm → Prop := fun r s Γ => ∃ i j, r = .d (.int i) ∧ s = .d (.int j) ∧ Q (.d (g i j)) Γ
theorem ve_iop {op : Operator} {C : Int → Int → Prop} {g : Int → Int → Int} (ho : OpR X (binaryOp op) (rI C fun i j => .int (g i j))) (h : VE X pa a Γ fun r Γ1 => VE X pa b Γ1 fun s Γ2 => RI C (fun i j => .int (g i j)) Q r.fz s.fz Γ2) : VE X pa (.BinOp a op b pos) Γ Q :=
  ve_two (pe_op ho pe_tw pe_tw) (fun F σ H G0 G Γ α v w r s ee S cv cw ⟨i, j, er, es, hc, q⟩ => by
    subst er; subst es
    exact ⟨i, j, cv.intE, cw.intE, hc, .trans ee (goal_int S q)⟩) h
theorem ve_iop0 {op : Operator} {g : Int → Int → Int} (ho : OpR X (binaryOp op) (rI0 fun i j => .int (g i j))) (h : VE X pa a Γ fun r Γ1 => VE X pa b Γ1 fun s Γ2 => RI0 (fun i j => .int (g i j)) Q r.fz s.fz Γ2) : VE X pa (.BinOp a op b pos) Γ Q :=
  ve_two (pe_op ho pe_tw pe_tw) (fun F σ H G0 G Γ α v w r s ee S cv cw ⟨i, j, er, es, q⟩ => by
    subst er; subst es
    exact ⟨i, j, cv.intE, cw.intE, .trans ee (goal_int S q)⟩) h
theorem ve_icmp {op : CmpOp} {g : Int → Int → Bool} (ho : OpR X (compareOp op) (rI0 fun i j => .bl (g i j))) (hm : behindInMarks op b = false) (h : VE X pa a Γ fun r Γ1 => VE X pa b Γ1 fun s Γ2 => RI0 (fun i j => .bl (g i j)) Q r.fz s.fz Γ2) : VE X pa (.Compare a [op] [b] pos) Γ Q :=
  ve_two (pe_cmpR ho pe_tw pe_tw hm) (fun F σ H G0 G Γ α v w r s ee S cv cw ⟨i, j, er, es, q⟩ => by
    subst er; subst es
    exact ⟨i, j, cv.intE, cw.intE, .trans ee (goal_bl S q)⟩) h
def TI0 (g : Int → Int → Bool) (Q : Bool → Gm → Prop) : Rs → Rs → Gm → Prop := fun r s Γ => ∃ i j, r = .d (.int i) ∧ s = .d (.int j) ∧ Q (g i j) Γ
theorem vt_icmp {op : CmpOp} {g : Int → Int → Bool} {Q : Bool → Gm → Prop} (ho : OpR X (compareOp op) (rI0 fun i j => .bl (g i j))) (hm : behindInMarks op b = false) (h : VE X pa a Γ fun r Γ1 => VE X pa b Γ1 fun s Γ2 => TI0 g Q r.fz s.fz Γ2) : VT X pa (.Compare a [op] [b] pos) Γ Q :=
  vt_two (pt_cmpR ho pe_tw pe_tw hm) (fun F σ H G0 G Γ α v w r s ee S cv cw ⟨i, j, er, es, q⟩ => by
    subst er; subst es
    exact ⟨i, j, cv.intE, cw.intE, .trans ee (goal_bl S ⟨_, rfl, q⟩)⟩) (fun v w H Q1 Q2 f ⟨i, j, e1, e2, q⟩ => ⟨i, j, e1, e2, f _ _ q⟩) h
theorem op_eqI : OpR X (compareOp .Eq) (rI0 fun i j => .bl (decide (i = j))) := opB0 fun i j _ _ _ _ _ q => eq_int (by rw [Bool.beq_eq_decide_eq]; exact q)
theorem op_neI : OpR X (compareOp .NotEq) (rI0 fun i j => .bl (!decide (i = j))) := opB0 fun i j _ _ _ _ _ q => ne_int (by rw [bne, Bool.beq_eq_decide_eq]; exact q)
/-- -a -/
theorem ve_neg (h : VE X pa a Γ fun r Γ1 => ∃ i, r.fz = .d (.int i) ∧ Q (.d (.int (-i))) Γ1) : VE X pa (.UnaryOp .USub a pos) Γ Q := ve_of (pe_un un_neg pe_tw) fun F σ H G S => by
  refine (h F σ H G S).mono fun v H1 ⟨G1, Γ1, r, e1, S1, i, er, q⟩ => ?_
  obtain ⟨G2, e2, S2⟩ := S1.fz
  have cv := S2.cv
  rw [er] at cv
  obtain ⟨α, S3, _⟩ := S2
  exact ⟨i, cv.intE, Goal.trans (e1.trans e2) (goal_int S3 q)⟩
/-! ### what == says of data -/
mutual
def D.py : D → PyData
  | .non => .none | .bl b => .bool b | .int i => .int i | .str x => .str x
  | .lst xs => .list (D.pys xs) | .tup xs => .tuple (D.pys xs)
  | .ins _ _ => .none | .dct _ => .none | .dtt _ => .none | .typ _ => .none | .obj _ => .none
  | .ktp xs => .tuple (D.pys xs) | .scr _ => .none | .clo _ _ _ => .none
def D.pys : List D → List PyData
  | [] => []
  | x :: xs => D.py x :: D.pys xs
end
mutual
/-- data that == goes through -/
def D.pl : D → Bool
  | .non => true | .bl _ => true | .int _ => true | .str x => true
  | .lst xs => D.pls xs | .tup xs => D.pls xs
  | .ins _ _ => false | .dct _ => false | .dtt _ => false | .typ _ => false | .obj _ => false
  | .ktp xs => D.pls xs | .scr _ => false | .clo _ _ _ => false
def D.pls : List D → Bool
  | [] => true
  | x :: xs => D.pl x && D.pls xs
end
theorem D.pys_map : ∀ xs : List D, D.pys xs = xs.map D.py
  | [] => rfl
  | x :: xs => by rw [D.pys, D.pys_map xs]; rfl
theorem D.pls_all : ∀ xs : List D, D.pls xs = xs.all D.pl
  | [] => rfl
  | x :: xs => by rw [D.pls, D.pls_all xs]; rfl
section
variable {K : PySem.W.Frag} {H : Hp}
mutual
theorem Re.dp : ∀ {v : V} {x : D}, Re K H v x → x.pl = true → Dp K H v x.py
  | _, _, .non, _ => .non
  | _, _, .bl b, _ => .bl b
  | _, _, .int i, _ => .int i
  | _, _, .str x, _ => .str x
  | _, _, .lst h r, p => .lst (SqL.of h) (ReA.dp r (by simpa only [D.pl] using p))
  | _, _, .tup h r, p => .tup (SqT.of h) (ReA.dp r (by simpa only [D.pl] using p))
  | _, _, .ins _ _ _, p => by simp [D.pl] at p
  | _, _, .dct _ _ _, p => by simp [D.pl] at p
  | _, _, .dtt _ _ _, p => by simp [D.pl] at p
  | _, _, .typ _, p => by simp [D.pl] at p
  | _, _, .obj _, p => by simp [D.pl] at p
  | _, _, .ktp h r, p => .tup h (ReA.dp r (by simpa only [D.pl] using p))
  | _, _, .scr _ _, p => by simp [D.pl] at p
  | _, _, .clo _ _ _, p => by simp [D.pl] at p
theorem ReA.dp : ∀ {vs : List V} {xs : List D}, ReA K H vs xs → D.pls xs = true → DpAll K H vs (D.pys xs)
  | _, _, .nil, _ => .nil
  | _, _, .cons r t, p => by
    simp only [D.pls, Bool.and_eq_true] at p
    exact .cons (Re.dp r p.1) (ReA.dp t p.2)
end
end
/-- fit for ==, in -/
def D.fit (x : D) : Bool := x.pl && SeqAt.shaped x.py
theorem D.fit_pl {x : D} (h : x.fit = true) : x.pl = true := by unfold D.fit at h; rw [Bool.and_eq_true] at h; exact h.1
theorem D.fit_sh {x : D} (h : x.fit = true) : SeqAt.shaped x.py = true := by unfold D.fit at h; rw [Bool.and_eq_true] at h; exact h.2
def REq (Q : Rs → Gm → Prop) (f : Bool → Bool) : Rs → Rs → Gm → Prop := fun r s Γ => ∃ x y, rd Γ r = some x ∧ rd Γ s = some y ∧ x.fit = true ∧ y.fit = true ∧ Q (.d (.bl (f (PyData.eqv x.py y.py)))) Γ
theorem ve_eqD (hu : X.A.units + 64 < cLine) (hm : behindInMarks .Eq b = false) (h : VE X pa a Γ fun r Γ1 => VE X pa b Γ1 fun s Γ2 => REq Q id r.fz s.fz Γ2) : VE X pa (.Compare a [.Eq] [b] pos) Γ Q :=
  ve_two (pe_cmpR (op_eqD hu) pe_tw pe_tw hm) (fun F σ H G0 G Γ α v w r s ee S cv cw ⟨x, y, er, es, fx, fy, q⟩ =>
    ⟨_, _, (cv.look S er).dp (D.fit_pl fx), (cw.look S es).dp (D.fit_pl fy), D.fit_sh fx, D.fit_sh fy, .trans ee (goal_bl S q)⟩) h
theorem ve_neD (hu : X.A.units + 64 < cLine) (hm : behindInMarks .NotEq b = false) (h : VE X pa a Γ fun r Γ1 => VE X pa b Γ1 fun s Γ2 => REq Q (!·) r.fz s.fz Γ2) : VE X pa (.Compare a [.NotEq] [b] pos) Γ Q :=
  ve_two (pe_cmpR (op_neD hu) pe_tw pe_tw hm) (fun F σ H G0 G Γ α v w r s ee S cv cw ⟨x, y, er, es, fx, fy, q⟩ =>
    ⟨_, _, (cv.look S er).dp (D.fit_pl fx), (cw.look S es).dp (D.fit_pl fy), D.fit_sh fx, D.fit_sh fy, .trans ee (goal_bl S q)⟩) h
def TEq (Q : Bool → Gm → Prop) (f : Bool → Bool) : Rs → Rs → Gm → Prop := fun r s Γ => ∃ x y, rd Γ r = some x ∧ rd Γ s = some y ∧ x.fit = true ∧ y.fit = true ∧ Q (f (PyData.eqv x.py y.py)) Γ
theorem vt_eqD {Q : Bool → Gm → Prop} (hu : X.A.units + 64 < cLine) (hm : behindInMarks .Eq b = false) (h : VE X pa a Γ fun r Γ1 => VE X pa b Γ1 fun s Γ2 => TEq Q id r.fz s.fz Γ2) : VT X pa (.Compare a [.Eq] [b] pos) Γ Q :=
  vt_two (pt_cmpR (op_eqD hu) pe_tw pe_tw hm) (fun F σ H G0 G Γ α v w r s ee S cv cw ⟨x, y, er, es, fx, fy, q⟩ =>
    ⟨_, _, (cv.look S er).dp (D.fit_pl fx), (cw.look S es).dp (D.fit_pl fy), D.fit_sh fx, D.fit_sh fy, .trans ee (goal_bl S ⟨_, rfl, q⟩)⟩) (fun v w H Q1 Q2 f ⟨i, j, e1, e2, s1, s2, q⟩ => ⟨i, j, e1, e2, s1, s2, f _ _ q⟩) h
theorem vt_neD {Q : Bool → Gm → Prop} (hu : X.A.units + 64 < cLine) (hm : behindInMarks .NotEq b = false) (h : VE X pa a Γ fun r Γ1 => VE X pa b Γ1 fun s Γ2 => TEq Q (!·) r.fz s.fz Γ2) : VT X pa (.Compare a [.NotEq] [b] pos) Γ Q :=
  vt_two (pt_cmpR (op_neD hu) pe_tw pe_tw hm) (fun F σ H G0 G Γ α v w r s ee S cv cw ⟨x, y, er, es, fx, fy, q⟩ =>
    ⟨_, _, (cv.look S er).dp (D.fit_pl fx), (cw.look S es).dp (D.fit_pl fy), D.fit_sh fx, D.fit_sh fy, .trans ee (goal_bl S ⟨_, rfl, q⟩)⟩) (fun v w H Q1 Q2 f ⟨i, j, e1, e2, s1, s2, q⟩ => ⟨i, j, e1, e2, s1, s2, f _ _ q⟩) h
/-- x in xs, xs a list -/
def RInL (Q : Rs → Gm → Prop) (f : Bool → Bool) : Rs → Rs → Gm → Prop := fun r s Γ => ∃ x ys, rd Γ r = some x ∧ rd Γ s = some (.lst ys) ∧ x.fit = true ∧ (D.lst ys).fit = true ∧ Q (.d (.bl (f ((D.pys ys).any fun y => PyData.eqv y x.py)))) Γ
/-! ### and, or, not, if else -/
theorem vt_not {Q : Bool → Gm → Prop} (h : VT X pa a Γ fun b Γ1 => Q (!b) Γ1) : VT X pa (.UnaryOp .Not a pos) Γ Q := vt_of (pt_not pt_tw) fun F σ H G S => h F σ H G S
theorem VW.vt {Q : Bool → Gm → Prop} (h : VW X pa e Γ Q) : VT X pa e Γ Q := fun F σ H G S pins s I => h F σ H G S _ pins s I
theorem vw_and1 {Q : Bool → Gm → Prop} (h : VT X pa a Γ Q) : VW X pa (.BoolOp .And [a] pos) Γ Q := fun F σ H G S => twW_of (pw_and1 pt_tw) (h F σ H G S)
theorem vw_or1 {Q : Bool → Gm → Prop} (h : VT X pa a Γ Q) : VW X pa (.BoolOp .Or [a] pos) Γ Q := fun F σ H G S => twW_of (pw_or1 pt_tw) (h F σ H G S)
theorem vw_and {rest : List Expr} {Q : Bool → Gm → Prop} (h : VT X pa a Γ fun c Γ1 => (c = true → VW X pa (.BoolOp .And (b :: rest) pos) Γ1 Q) ∧ (c = false → Q false Γ1)) : VW X pa (.BoolOp .And (a :: b :: rest) pos) Γ Q := fun F σ H G S => by
  refine twW_of (pw_and pt_tw pw_tw) ?_
  refine (h F σ H G S).mono fun c H1 ⟨G1, Γ1, e1, S1, q1, q2⟩ => ?_
  cases c with
  | true => exact fun wh pins s I => thn (q1 rfl F σ H1 G1 S1 wh pins s I) fun u s' ⟨H', I', G', Γ', e', S', q⟩ => ⟨H', I', G', Γ', e1.trans e', S', q⟩
  | false => exact ⟨G1, Γ1, e1, S1, q2 rfl⟩
theorem vw_or {rest : List Expr} {Q : Bool → Gm → Prop} (h : VT X pa a Γ fun c Γ1 => (c = false → VW X pa (.BoolOp .Or (b :: rest) pos) Γ1 Q) ∧ (c = true → Q true Γ1)) : VW X pa (.BoolOp .Or (a :: b :: rest) pos) Γ Q := fun F σ H G S => by
  refine twW_of (pw_or pt_tw pw_tw) ?_
  refine (h F σ H G S).mono fun c H1 ⟨G1, Γ1, e1, S1, q1, q2⟩ => ?_
  cases c with
  | false => exact fun wh pins s I => thn (q1 rfl F σ H1 G1 S1 wh pins s I) fun u s' ⟨H', I', G', Γ', e', S', q⟩ => ⟨H', I', G', Γ', e1.trans e', S', q⟩
  | true => exact ⟨G1, Γ1, e1, S1, q2 rfl⟩
/-- tests whose answers are told ahead: what follows is shown once -/
theorem VT.is {Q : Bool → Gm → Prop} {c : Bool} (h : VT X pa e Γ fun b Γ1 => b = c ∧ Γ1 = Γ) (q : Q c Γ) : VT X pa e Γ Q := fun F σ H G S => (h F σ H G S).mono fun b H1 ⟨G1, Γ1, e1, S1, eb, eg⟩ => ⟨G1, Γ1, e1, S1, by rw [eb, eg]; exact q⟩
theorem vw_and2 {rest : List Expr} {c d : Bool} {Q : Bool → Gm → Prop} (h1 : VT X pa a Γ fun x Γ1 => x = c ∧ Γ1 = Γ) (h2 : c = true → VW X pa (.BoolOp .And (b :: rest) pos) Γ fun x Γ1 => x = d ∧ Γ1 = Γ) (q : Q (c && d) Γ) : VW X pa (.BoolOp .And (a :: b :: rest) pos) Γ Q := by
  cases c with
  | true =>
    refine vw_and fun F σ H G S => (h1 F σ H G S).mono fun x H1 ⟨G1, Γ1, e1, S1, eb, eg⟩ => ⟨G1, Γ1, e1, S1, And.intro (fun _ => ?_) (fun z => nomatch (eb.symm.trans z))⟩
    subst eg
    exact fun F σ H G S wh pins s I => thn (h2 rfl F σ H G S wh pins s I) fun u s' ⟨H', I', G', Γ', e', S', e1, e2⟩ => ⟨H', I', G', Γ', e', S', by subst e1; subst e2; exact q⟩
  | false =>
    refine vw_and fun F σ H G S => (h1 F σ H G S).mono fun x H1 ⟨G1, Γ1, e1, S1, eb, eg⟩ => ⟨G1, Γ1, e1, S1, And.intro (fun z => nomatch (eb.symm.trans z)) (fun _ => ?_)⟩
    subst eg; exact q
theorem vw_or2 {rest : List Expr} {c d : Bool} {Q : Bool → Gm → Prop} (h1 : VT X pa a Γ fun x Γ1 => x = c ∧ Γ1 = Γ) (h2 : c = false → VW X pa (.BoolOp .Or (b :: rest) pos) Γ fun x Γ1 => x = d ∧ Γ1 = Γ) (q : Q (c || d) Γ) : VW X pa (.BoolOp .Or (a :: b :: rest) pos) Γ Q := by
  cases c with
  | false =>
    refine vw_or fun F σ H G S => (h1 F σ H G S).mono fun x H1 ⟨G1, Γ1, e1, S1, eb, eg⟩ => ⟨G1, Γ1, e1, S1, And.intro (fun _ => ?_) (fun z => nomatch (eb.symm.trans z))⟩
    subst eg
    exact fun F σ H G S wh pins s I => thn (h2 rfl F σ H G S wh pins s I) fun u s' ⟨H', I', G', Γ', e', S', e1, e2⟩ => ⟨H', I', G', Γ', e', S', by subst e1; subst e2; exact q⟩
  | true =>
    refine vw_or fun F σ H G S => (h1 F σ H G S).mono fun x H1 ⟨G1, Γ1, e1, S1, eb, eg⟩ => ⟨G1, Γ1, e1, S1, And.intro (fun z => nomatch (eb.symm.trans z)) (fun _ => ?_)⟩
    subst eg; exact q
/-- as values: bools -/
theorem ve_not (h : VE X pa a Γ fun r Γ1 => ∃ c, r = .d (.bl c) ∧ Q (.d (.bl (!c))) Γ1) : VE X pa (.UnaryOp .Not a pos) Γ Q := ve_of (pe_not pe_tw) fun F σ H G S =>
  (h F σ H G S).mono fun v H1 ⟨G1, Γ1, r, e1, ⟨α, S1, rv⟩, c, er, q⟩ => by subst er; exact ⟨c, Re.blE rv, G1, Γ1, .d (.bl (!c)), e1, ⟨α, S1, Re.bl _⟩, q⟩
theorem ve_one {op : BoolOp} (h : VE X pa a Γ Q) : VE X pa (.BoolOp op [a] pos) Γ Q := ve_of (pe_one pe_tw) fun F σ H G S => h F σ H G S
theorem ve_and {rest : List Expr} (h : VE X pa a Γ fun r Γ1 => ∃ c, r = .d (.bl c) ∧ (c = true → VE X pa (.BoolOp .And (b :: rest) pos) Γ1 Q) ∧ (c = false → Q (.d (.bl false)) Γ1)) : VE X pa (.BoolOp .And (a :: b :: rest) pos) Γ Q :=
  ve_of (pe_and pe_tw pe_tw) fun F σ H G S => (h F σ H G S).mono fun v H1 ⟨G1, Γ1, r, e1, ⟨α, S1, rv⟩, c, er, q1, q2⟩ => by
    subst er
    refine ⟨c, Re.blE rv, ?_⟩
    cases c with
    | true => exact (q1 rfl F σ H1 G1 ⟨α, S1⟩).mono fun v' H' h => Goal.trans e1 h
    | false => exact ⟨G1, Γ1, .d (.bl false), e1, ⟨α, S1, Re.bl false⟩, q2 rfl⟩
theorem ve_or {rest : List Expr} (h : VE X pa a Γ fun r Γ1 => ∃ c, r = .d (.bl c) ∧ (c = false → VE X pa (.BoolOp .Or (b :: rest) pos) Γ1 Q) ∧ (c = true → Q (.d (.bl true)) Γ1)) : VE X pa (.BoolOp .Or (a :: b :: rest) pos) Γ Q :=
  ve_of (pe_or pe_tw pe_tw) fun F σ H G S => (h F σ H G S).mono fun v H1 ⟨G1, Γ1, r, e1, ⟨α, S1, rv⟩, c, er, q1, q2⟩ => by
    subst er
    refine ⟨c, Re.blE rv, ?_⟩
    cases c with
    | false => exact (q1 rfl F σ H1 G1 ⟨α, S1⟩).mono fun v' H' h => Goal.trans e1 h
    | true => exact ⟨G1, Γ1, .d (.bl true), e1, ⟨α, S1, Re.bl true⟩, q2 rfl⟩
theorem ve_and2 {rest : List Expr} {c d : Bool} (h1 : VE X pa a Γ fun r Γ1 => r = .d (.bl c) ∧ Γ1 = Γ) (h2 : c = true → VE X pa (.BoolOp .And (b :: rest) pos) Γ fun r Γ1 => r = .d (.bl d) ∧ Γ1 = Γ) (q : Q (.d (.bl (c && d))) Γ) : VE X pa (.BoolOp .And (a :: b :: rest) pos) Γ Q := by
  refine ve_and (h1.mono fun r Γ1 ⟨er, eg⟩ => ⟨c, er, fun hc => ?_, fun hc => ?_⟩)
  · subst eg; subst hc; exact (h2 rfl).mono fun r Γ1 ⟨er, eg⟩ => by subst er; subst eg; exact q
  · subst eg; subst hc; exact q
theorem ve_or2 {rest : List Expr} {c d : Bool} (h1 : VE X pa a Γ fun r Γ1 => r = .d (.bl c) ∧ Γ1 = Γ) (h2 : c = false → VE X pa (.BoolOp .Or (b :: rest) pos) Γ fun r Γ1 => r = .d (.bl d) ∧ Γ1 = Γ) (q : Q (.d (.bl (c || d))) Γ) : VE X pa (.BoolOp .Or (a :: b :: rest) pos) Γ Q := by
  refine ve_or (h1.mono fun r Γ1 ⟨er, eg⟩ => ⟨c, er, fun hc => ?_, fun hc => ?_⟩)
  · subst eg; subst hc; exact (h2 rfl).mono fun r Γ1 ⟨er, eg⟩ => by subst er; subst eg; exact q
  · subst eg; subst hc; exact q
theorem ve_if {c : Expr} (h : VT X pa c Γ fun t Γ1 => (t = true → VE X pa a Γ1 Q) ∧ (t = false → VE X pa b Γ1 Q)) : VE X pa (.IfExp c a b pos) Γ Q := ve_of (pe_ifExp pt_tw pe_tw pe_tw) fun F σ H G S =>
  (h F σ H G S).mono fun t H1 ⟨G1, Γ1, e1, S1, q1, q2⟩ => by
    cases t with
    | true => exact (q1 rfl F σ H1 G1 S1).mono fun v' H' h => Goal.trans e1 h
    | false => exact (q2 rfl F σ H1 G1 S1).mono fun v' H' h => Goal.trans e1 h
/-- chained comparison of ints -/
theorem ve_chain {op op' : CmpOp} {g g' : Int → Int → Bool} {c : Expr} (ho : OpR X (compareOp op) (rI0 fun i j => .bl (g i j))) (ho' : OpR X (compareOp op') (rI0 fun i j => .bl (g' i j)))
    {i j k : Int} (ha : VE X pa a Γ fun r Γ1 => r = .d (.int i) ∧ Γ1 = Γ) (hb : VE X pa b Γ fun r Γ1 => r = .d (.int j) ∧ Γ1 = Γ) (hc : g i j = true → VE X pa c Γ fun r Γ1 => r = .d (.int k) ∧ Γ1 = Γ) (q : Q (.d (.bl (g i j && g' j k))) Γ)
    (hm : lastMarks [op, op'] [b, c] = false := by with_unfolding_all rfl) : VE X pa (.Compare a [op, op'] [b, c] pos) Γ Q := ve_of (pe_chain ho ho' pe_tw pe_tw pe_tw hm) fun F σ H G S => by
  refine (ha F σ H G S).mono fun v H1 ⟨G1, Γ1, r, e1, ⟨α, S1, rv⟩, er, eg⟩ => ?_
  subst er; subst eg
  refine (hb F σ H1 G1 ⟨α, S1⟩).mono fun w H2 ⟨G2, Γ2, r2, e2, ⟨α2, S2, rw2⟩, er, eg⟩ => ?_
  subst er; subst eg
  refine ⟨i, j, Re.intE rv, Re.intE rw2, g i j, rfl, ?_⟩
  cases hg : g i j with
  | true =>
    show (if true = true then _ else _)
    rw [if_pos rfl]
    refine (hc hg F σ H2 G2 ⟨α2, S2⟩).mono fun z H3 ⟨G3, Γ3, r3, e3, ⟨α3, S3, rz⟩, er, eg⟩ => ?_
    subst er; subst eg
    refine ⟨j, k, Re.intE rw2, Re.intE rz, G3, _, .d (.bl (g' j k)), (e1.trans e2).trans e3, ⟨α3, S3, Re.bl _⟩, ?_⟩
    rw [hg, Bool.true_and] at q; exact q
  | false =>
    show (if false = true then _ else _)
    rw [if_neg Bool.false_ne_true]
    refine ⟨G2, _, .d (.bl false), e1.trans e2, ⟨α2, S2, Re.bl _⟩, ?_⟩
    rw [hg, Bool.false_and] at q; exact q
theorem vt_chain {op op' : CmpOp} {g g' : Int → Int → Bool} {c : Expr} {Q : Bool → Gm → Prop} (ho : OpR X (compareOp op) (rI0 fun i j => .bl (g i j))) (ho' : OpR X (compareOp op') (rI0 fun i j => .bl (g' i j)))
    {i j k : Int} (ha : VE X pa a Γ fun r Γ1 => r = .d (.int i) ∧ Γ1 = Γ) (hb : VE X pa b Γ fun r Γ1 => r = .d (.int j) ∧ Γ1 = Γ) (hc : g i j = true → VE X pa c Γ fun r Γ1 => r = .d (.int k) ∧ Γ1 = Γ) (q : Q (g i j && g' j k) Γ)
    (hm : lastMarks [op, op'] [b, c] = false := by with_unfolding_all rfl) : VT X pa (.Compare a [op, op'] [b, c] pos) Γ Q := vt_of (pt_chain ho ho' pe_tw pe_tw pe_tw hm) fun F σ H G S => by
  refine (ha F σ H G S).mono fun v H1 ⟨G1, Γ1, r, e1, ⟨α, S1, rv⟩, er, eg⟩ => ?_
  subst er; subst eg
  refine (hb F σ H1 G1 ⟨α, S1⟩).mono fun w H2 ⟨G2, Γ2, r2, e2, ⟨α2, S2, rw2⟩, er, eg⟩ => ?_
  subst er; subst eg
  refine ⟨i, j, Re.intE rv, Re.intE rw2, g i j, rfl, ?_⟩
  cases hg : g i j with
  | true =>
    show (if true = true then _ else _)
    rw [if_pos rfl]
    refine (hc hg F σ H2 G2 ⟨α2, S2⟩).mono fun z H3 ⟨G3, Γ3, r3, e3, ⟨α3, S3, rz⟩, er, eg⟩ => ?_
    subst er; subst eg
    refine ⟨j, k, Re.intE rw2, Re.intE rz, g' j k, rfl, G3, _, (e1.trans e2).trans e3, ⟨α3, S3⟩, ?_⟩
    rw [hg, Bool.true_and] at q; exact q
  | false =>
    show (if false = true then _ else _)
    rw [if_neg Bool.false_ne_true]
    refine ⟨false, rfl, G2, _, e1.trans e2, ⟨α2, S2⟩, ?_⟩
    rw [hg, Bool.false_and] at q; exact q
end
end AV
set_option Elab.async false
set_option linter.all false
set_option maxRecDepth 100000
set_option maxHeartbeats 4000000
namespace AV
open PySem PySem.Spec PyProof.Rows L2
section
variable {X : Cx} {pa : Pin} {e a b o : Expr} {es : List Expr} {Γ Γ' : Gm} {Q Q' : Rs → Gm → Prop} {pos p1 p2 apos cpos : Pos}
/-! ## built-in functions -/
theorem ve_call {e : Expr} {r : List V → Hp → VK → Prop} {R : List Rs → Gm → Prop} (hp : PE X e (tCB r (twA X es)))
    (sem : ∀ (F : Hp) (σ : L2.St) (H G0 G : Hp) (Γ : Gm) (α : Nat → Addr) (vs : List V) (rs : List Rs), Ex G0 G → Sk X.K pa F σ H G Γ α → CvA X.K σ G vs rs → R rs Γ → r vs H (Goal X pa F σ G0 Q))
    (h : VA X pa es Γ R) : VE X pa e Γ Q := ve_of hp fun F σ H G S =>
  (h F σ H G S).mono fun vs H1 ⟨G1, Γ1, rs, e1, ⟨α, S1⟩, cv, q⟩ => sem F σ H1 G G1 Γ1 α vs rs e1 S1 cv q
/-- one argument -/
theorem ve_call1 {e : Expr} {rr : List V → Hp → VK → Prop} (P : Rs → Gm → Prop) (hp : PE X e (tCB rr (twA X [a])))
    (h : VE X pa a Γ fun r Γ1 => P r.fz Γ1) (hs : starEach [a] X.env = (false, eval a X.env) :: starEach [] X.env)
    (sem : ∀ (F : Hp) (σ : L2.St) (H G0 G : Hp) (Γ : Gm) (α : Nat → Addr) (v : V) (r : Rs), Ex G0 G → Sk X.K pa F σ H G Γ α → Cv X.K σ G v r → P r Γ → rr [v] H (Goal X pa F σ G0 Q)) : VE X pa e Γ Q :=
  ve_call (R := fun rs Γ => ∃ r, rs = [r] ∧ P r Γ) hp (fun F σ H G0 G Γ α vs rs ee S cv ⟨r, er, q⟩ => by
    subst er
    obtain ⟨v, rfl, c⟩ := cv.one
    exact sem F σ H G0 G Γ α v r ee S c q) (va_cons (h.mono fun r Γ1 q => va_nil ⟨_, rfl, q⟩) hs)
theorem ve_call2 {e : Expr} {rr : List V → Hp → VK → Prop} (P : Rs → Rs → Gm → Prop) (hp : PE X e (tCB rr (twA X [a, b])))
    (h : VE X pa a Γ fun r Γ1 => VE X pa b Γ1 fun s Γ2 => P r.fz s.fz Γ2) (hs : starEach [a, b] X.env = (false, eval a X.env) :: starEach [b] X.env) (hs2 : starEach [b] X.env = (false, eval b X.env) :: starEach [] X.env)
    (sem : ∀ (F : Hp) (σ : L2.St) (H G0 G : Hp) (Γ : Gm) (α : Nat → Addr) (v w : V) (r s : Rs), Ex G0 G → Sk X.K pa F σ H G Γ α → Cv X.K σ G v r → Cv X.K σ G w s → P r s Γ → rr [v, w] H (Goal X pa F σ G0 Q)) : VE X pa e Γ Q :=
  ve_call (R := fun rs Γ => ∃ r s, rs = [r, s] ∧ P r s Γ) hp (fun F σ H G0 G Γ α vs rs ee S cv ⟨r, s, er, q⟩ => by
    subst er
    obtain ⟨v, w, rfl, c, c2⟩ := cv.two
    exact sem F σ H G0 G Γ α v w r s ee S c c2 q) (va_cons (h.mono fun r Γ1 h1 => va_cons (h1.mono fun s Γ2 q => va_nil ⟨_, _, rfl, q⟩) hs2) hs)
theorem bb_abs : bootBuiltins "abs" = some (.builtin "abs") := by decide +kernel
theorem bb_max : bootBuiltins "max" = some (.builtin "max") := by decide +kernel
theorem bb_min : bootBuiltins "min" = some (.builtin "min") := by decide +kernel
theorem bb_sum : bootBuiltins "sum" = some (.builtin "sum") := by decide +kernel
theorem bb_all : bootBuiltins "all" = some (.builtin "all") := by decide +kernel
theorem bb_any : bootBuiltins "any" = some (.builtin "any") := by decide +kernel
theorem bb_isi : bootBuiltins "isinstance" = some (.builtin "isinstance") := by decide +kernel
theorem bb_sorted : bootBuiltins "sorted" = some (.builtin "sorted") := by decide +kernel
theorem bb_repr : bootBuiltins "repr" = some (.builtin "repr") := by decide +kernel
theorem bb_int : bootBuiltins "int" = some (.type "int") := by decide +kernel
theorem bb_bool : bootBuiltins "bool" = some (.type "bool") := by decide +kernel
theorem bb_str : bootBuiltins "str" = some (.type "str") := by decide +kernel
theorem bb_tuple : bootBuiltins "tuple" = some (.type "tuple") := by decide +kernel
theorem bb_list : bootBuiltins "list" = some (.type "list") := by decide +kernel
theorem bb_set : bootBuiltins "set" = some (.type "set") := by decide +kernel
theorem bb_dict : bootBuiltins "dict" = some (.type "dict") := by decide +kernel
abbrev S1 (X : Cx) (a : Expr) : Prop := starEach [a] X.env = (false, eval a X.env) :: starEach [] X.env
abbrev S2 (X : Cx) (a b : Expr) : Prop := starEach [a, b] X.env = (false, eval a X.env) :: starEach [b] X.env
abbrev NoStar (X : Cx) (pos : Pos) (es : List Expr) : Prop := (backTo pos (starEach es X.env)).any (·.1) = false
def Plen (Q : Rs → Gm → Prop) : Rs → Gm → Prop := fun r Γ => ∃ ds, sq Γ r = some ds ∧ Q (.d (.int (ds.length : Nat))) Γ
theorem ve_len {p : Pos} (hg : Gl X "len") (hm : X.mg "len" = none) (h : VE X pa a Γ fun r Γ1 => Plen Q r.fz Γ1) (he : S1 X a := by rfl) (hpl : NoStar X pos [] := by rfl) : VE X pa (.Call (.Name "len" p) [a] [] pos) Γ Q :=
  ve_call1 (Plen Q) (pe_callB call_len_seq hg hm PySem.boot_len pa_tw (he := he) (hpl := hpl)) h he fun F σ H G0 G Γ α v r ee S c ⟨ds, hd, q⟩ => by
    obtain ⟨a, ws, rfl, hq, ra⟩ := c.seq S hd
    exact ⟨a, ws, rfl, hq, .trans ee (by rw [ra.length]; exact goal_int S q)⟩
/-- len of a dict of ours -/
def PlenK (Q : Rs → Gm → Prop) : Rs → Gm → Prop := fun r Γ => ∃ ds, rd Γ r = some (.dct ds) ∧ Q (.d (.int (ds.length : Nat))) Γ
theorem ve_lenK {p : Pos} (hg : Gl X "len") (hm : X.mg "len" = none) (h : VE X pa a Γ fun r Γ1 => PlenK Q r.fz Γ1) (he : S1 X a := by rfl) (hpl : NoStar X pos [] := by rfl) : VE X pa (.Call (.Name "len" p) [a] [] pos) Γ Q :=
  ve_call1 (PlenK Q) (pe_callB call_lenD hg hm PySem.boot_len pa_tw (he := he) (hpl := hpl)) h he fun F σ H G0 G Γ α v r ee S c ⟨ds, hd, q⟩ => by
    have h1 := c.look S hd
    cases h1 with
    | dct ha hk hr =>
      refine ⟨_, _, rfl, ha, .trans ee ?_⟩
      have el := congrArg List.length hk
      rw [List.length_map, List.length_map] at el
      rw [el]
      exact goal_int S q
def PI1 (g : Int → Int) (Q : Rs → Gm → Prop) : Rs → Gm → Prop := fun r Γ => ∃ i, r = .d (.int i) ∧ Q (.d (.int (g i))) Γ
def PB1 (g : Bool → Int) (Q : Rs → Gm → Prop) : Rs → Gm → Prop := fun r Γ => ∃ i, r = .d (.bl i) ∧ Q (.d (.int (g i))) Γ
theorem ve_abs {p : Pos} (hg : Gl X "abs") (hm : X.mg "abs" = none) (h : VE X pa a Γ fun r Γ1 => PI1 (fun i => (i.natAbs : Nat)) Q r.fz Γ1) (he : S1 X a := by rfl) (hpl : NoStar X pos [] := by rfl) : VE X pa (.Call (.Name "abs" p) [a] [] pos) Γ Q :=
  ve_call1 (PI1 (fun i => (i.natAbs : Nat)) Q) (pe_callB call_abs hg hm bb_abs pa_tw (he := he) (hpl := hpl)) h he fun F σ H G0 G Γ α v r ee S c ⟨i, hd, q⟩ => by
    subst hd
    rw [c.intE]
    refine ⟨i, rfl, .trans ee ?_⟩
    rw [show (if i < 0 then -i else i) = (i.natAbs : Nat) by split <;> omega]
    exact goal_int S q
theorem ve_int1 {p : Pos} (hg : Gl X "int") (hm : X.mg "int" = none) (h : VE X pa a Γ fun r Γ1 => PI1 id Q r.fz Γ1) (he : S1 X a := by rfl) (hpl : NoStar X pos [] := by rfl) : VE X pa (.Call (.Name "int" p) [a] [] pos) Γ Q :=
  ve_call1 (PI1 id Q) (pe_callTy call_int1 hg hm bb_int pa_tw (he := he) (hpl := hpl)) h he fun F σ H G0 G Γ α v r ee S c ⟨i, hd, q⟩ => by
    subst hd
    rw [c.intE]
    exact .inl ⟨i, rfl, .trans ee (goal_int S q)⟩
theorem ve_intb {p : Pos} (hg : Gl X "int") (hm : X.mg "int" = none) (h : VE X pa a Γ fun r Γ1 => PB1 (fun i => if i then 1 else 0) Q r.fz Γ1) (he : S1 X a := by rfl) (hpl : NoStar X pos [] := by rfl) : VE X pa (.Call (.Name "int" p) [a] [] pos) Γ Q :=
  ve_call1 (PB1 (fun i => if i then 1 else 0) Q) (pe_callTy call_int1 hg hm bb_int pa_tw (he := he) (hpl := hpl)) h he fun F σ H G0 G Γ α v r ee S c ⟨i, hd, q⟩ => by
    subst hd
    rw [c.blE]
    exact .inr ⟨i, rfl, .trans ee (goal_int S q)⟩
def PI2 (g : Int → Int → Int) (Q : Rs → Gm → Prop) : Rs → Rs → Gm → Prop := fun r s Γ => ∃ i j, r = .d (.int i) ∧ s = .d (.int j) ∧ Q (.d (.int (g i j))) Γ
theorem ve_max2 {p : Pos} (hg : Gl X "max") (hm : X.mg "max" = none) (h : VE X pa a Γ fun r Γ1 => VE X pa b Γ1 fun s Γ2 => PI2 max Q r.fz s.fz Γ2) (hc : X.calm = true := by rfl)
    (he : S2 X a b := by rfl) (he2 : S1 X b := by rfl) (hpl : NoStar X pos [b] := by rfl) : VE X pa (.Call (.Name "max" p) [a, b] [] pos) Γ Q :=
  ve_call2 (PI2 max Q) (pe_callB (call_max2 hc) hg hm bb_max pa_tw (he := he) (hpl := hpl)) h he he2 fun F σ H G0 G Γ α v w r s ee S c1 c2 ⟨i, j, e1, e2, q⟩ => by
    subst e1; subst e2
    rw [c1.intE, c2.intE]
    refine ⟨i, j, rfl, .trans ee ?_⟩
    rw [show (if j > i then j else i) = max i j by split <;> omega]
    exact goal_int S q
theorem ve_min2 {p : Pos} (hg : Gl X "min") (hm : X.mg "min" = none) (h : VE X pa a Γ fun r Γ1 => VE X pa b Γ1 fun s Γ2 => PI2 min Q r.fz s.fz Γ2) (hc : X.calm = true := by rfl)
    (he : S2 X a b := by rfl) (he2 : S1 X b := by rfl) (hpl : NoStar X pos [b] := by rfl) : VE X pa (.Call (.Name "min" p) [a, b] [] pos) Γ Q :=
  ve_call2 (PI2 min Q) (pe_callB (call_min2 hc) hg hm bb_min pa_tw (he := he) (hpl := hpl)) h he he2 fun F σ H G0 G Γ α v w r s ee S c1 c2 ⟨i, j, e1, e2, q⟩ => by
    subst e1; subst e2
    rw [c1.intE, c2.intE]
    refine ⟨i, j, rfl, .trans ee ?_⟩
    rw [show (if j < i then j else i) = min i j by split <;> omega]
    exact goal_int S q
/-- sum of ints, a list or a tuple -/
theorem cr_sumA (hc : X.calm = true) : CallR X (.builtin "sum") (fun vs H Q => ∃ (a : Addr) (ns : List Int), vs = [V.ref a] ∧ (SqL X.K H a (ns.map V.int) ∨ SqT X.K H a (ns.map V.int)) ∧ Q (.int ns.sum) H) := by
  intro pins s σ H xs us Q I r h
  obtain ⟨a, ns, rfl, h1 | h1, q⟩ := h
  · exact cr_sum hc pins s σ H _ us Q I r ⟨a, ns, rfl, h1, q⟩
  · obtain ⟨u, rfl, ru⟩ := vals1 r
    cases ru
    obtain ⟨its, rv, ht, hz⟩ := I.tuple h1
    have hi := intsAre_of rv
    obtain ⟨xs, hx⟩ := hi.allInts.items
    have hn : numsOf its.toArray.toList = ns := by rw [show its.toArray.toList = its from rfl, hi.numsOf]
    rw [hx] at hn
    rw [nums_intItems] at hn
    have ht2 : s.heap.IsTuple a (intItems xs) := by rw [← hx]; exact ht
    refine PySem.W.ktm_sumG (I.ok.hd hc) ht2 fun h' tk t' hk => ?_
    rw [preSum_eq, List.take_of_length_le (by simp), hn]
    exact ⟨.int ns.sum, H, I.kept hk, ⟨t', rfl⟩, q⟩
def PInts (g : List Int → Option Int) (Q : Rs → Gm → Prop) : Rs → Gm → Prop := fun r Γ => ∃ (ns : List Int) (m : Int), sq Γ r = some (ns.map D.int) ∧ g ns = some m ∧ Q (.d (.int m)) Γ
def PSum (Q : Rs → Gm → Prop) : Rs → Gm → Prop := fun r Γ => ∃ ns : List Int, sq Γ r = some (ns.map D.int) ∧ Q (.d (.int ns.sum)) Γ
theorem ve_sum {p : Pos} (hg : Gl X "sum") (hm : X.mg "sum" = none) (h : VE X pa a Γ fun r Γ1 => PSum Q r.fz Γ1) (hc : X.calm = true := by rfl) (he : S1 X a := by rfl) (hpl : NoStar X pos [] := by rfl) : VE X pa (.Call (.Name "sum" p) [a] [] pos) Γ Q :=
  ve_call1 (PSum Q) (pe_callB (cr_sumA hc) hg hm bb_sum pa_tw (he := he) (hpl := hpl)) h he fun F σ H G0 G Γ α v r ee S c ⟨ns, hd, q⟩ => by
    obtain ⟨a, ws, rfl, hq, ra⟩ := c.seq S hd
    have e2 := ra.ints
    subst e2
    exact ⟨a, ns, rfl, hq, .trans ee (goal_int S q)⟩
theorem intsReads {its : List Value} {ns : List Int} {h : Heap} (rv : Vals (ns.map V.int) its) : ReadsAll h its (ns.map PyData.int) [] := by
  induction ns generalizing its with
  | nil => cases rv; exact .nil
  | cons n ns ih =>
    cases rv with
    | cons r t =>
      obtain ⟨tk, rfl⟩ := r
      exact .cons (.int n tk) (ih t)
theorem alikeInts (ns : List Int) : PySem.W.AlikeAll (ns.map PyData.int) := by
  refine ⟨fun x hx y hy => ?_, fun x hx => ?_⟩
  · obtain ⟨i, _, rfl⟩ := List.mem_map.mp hx
    obtain ⟨j, _, rfl⟩ := List.mem_map.mp hy
    rfl
  · obtain ⟨i, _, rfl⟩ := List.mem_map.mp hx
    intro z; cases z
theorem depthInts : ∀ ns : List Int, PyData.depthAll (ns.map PyData.int) = 0
  | [] => rfl
  | n :: ns => by rw [List.map_cons, PyData.depthAll, depthInts ns]; rfl
def maxL (n : Int) (ns : List Int) : Int := ns.foldl max n
def minL (n : Int) (ns : List Int) : Int := ns.foldl min n
theorem cr_maxA (hc : X.calm = true) (hu : X.A.units + 64 < cLine) : CallR X (.builtin "max") (fun vs H Q => ∃ (a : Addr) (n : Int) (ns : List Int), vs = [V.ref a] ∧ (SqL X.K H a ((n :: ns).map V.int) ∨ SqT X.K H a ((n :: ns).map V.int)) ∧ Q (.int (maxL n ns)) H) := by
  intro pins s σ H xs us Q I r h
  obtain ⟨a, n, ns, rfl, hq, q⟩ := h
  obtain ⟨u, rfl, ru⟩ := vals1 r
  cases ru
  have fin : ∀ (i : Nat) (v : Value) (h' : Heap) (tk : Nat) (bs : List Addr), Reads h' v (PySem.W.maxD (.int n) (ns.map PyData.int)) bs → (∀ b o, s.heap.get? b = some o → h'.get? b = some o) → EP X pins σ Q v { s with heap := h', toks := tk } := by
    intro i v h' tk bs rd hk
    rw [PySem.W.maxD_ints] at rd
    cases rd
    exact ⟨.int _, H, I.kept hk, ⟨_, rfl⟩, q⟩
  have hd := I.ok.hd hc
  have hdep : X.A.units + 1 + PyData.depthAll (PyData.int n :: ns.map PyData.int) < cLine := by
    rw [show PyData.int n :: ns.map PyData.int = (n :: ns).map PyData.int from rfl, depthInts]; omega
  rcases hq with hq | hq
  · obtain ⟨its, rv, pl, hz⟩ := I.list hq
    exact PySem.W.max_list_data hd pl.isList (intsReads rv) (alikeInts (n :: ns)) hdep fun i v h' tk bs hi rd hk => fin i v h' tk bs rd hk
  · obtain ⟨its, rv, ht, hz⟩ := I.tuple hq
    exact PySem.W.max_tuple_data hd ht (intsReads rv) (alikeInts (n :: ns)) hdep fun i v h' tk bs hi rd hk => fin i v h' tk bs rd hk
theorem cr_minA (hc : X.calm = true) (hu : X.A.units + 64 < cLine) : CallR X (.builtin "min") (fun vs H Q => ∃ (a : Addr) (n : Int) (ns : List Int), vs = [V.ref a] ∧ (SqL X.K H a ((n :: ns).map V.int) ∨ SqT X.K H a ((n :: ns).map V.int)) ∧ Q (.int (minL n ns)) H) := by
  intro pins s σ H xs us Q I r h
  obtain ⟨a, n, ns, rfl, hq, q⟩ := h
  obtain ⟨u, rfl, ru⟩ := vals1 r
  cases ru
  have fin : ∀ (i : Nat) (v : Value) (h' : Heap) (tk : Nat) (bs : List Addr), Reads h' v (PySem.W.minD (.int n) (ns.map PyData.int)) bs → (∀ b o, s.heap.get? b = some o → h'.get? b = some o) → EP X pins σ Q v { s with heap := h', toks := tk } := by
    intro i v h' tk bs rd hk
    rw [PySem.W.minD_ints] at rd
    cases rd
    exact ⟨.int _, H, I.kept hk, ⟨_, rfl⟩, q⟩
  have hd := I.ok.hd hc
  have hdep : X.A.units + 1 + PyData.depthAll (PyData.int n :: ns.map PyData.int) < cLine := by
    rw [show PyData.int n :: ns.map PyData.int = (n :: ns).map PyData.int from rfl, depthInts]; omega
  rcases hq with hq | hq
  · obtain ⟨its, rv, pl, hz⟩ := I.list hq
    exact PySem.W.min_list_data hd pl.isList (intsReads rv) (alikeInts (n :: ns)) hdep fun i v h' tk bs hi rd hk => fin i v h' tk bs rd hk
  · obtain ⟨its, rv, ht, hz⟩ := I.tuple hq
    exact PySem.W.min_tuple_data hd ht (intsReads rv) (alikeInts (n :: ns)) hdep fun i v h' tk bs hi rd hk => fin i v h' tk bs rd hk
def PMm (g : Int → List Int → Int) (Q : Rs → Gm → Prop) : Rs → Gm → Prop := fun r Γ => ∃ (n : Int) (ns : List Int), sq Γ r = some ((n :: ns).map D.int) ∧ Q (.d (.int (g n ns))) Γ
theorem ve_maxL {p : Pos} (hu : X.A.units + 64 < cLine) (hg : Gl X "max") (hm : X.mg "max" = none) (h : VE X pa a Γ fun r Γ1 => PMm maxL Q r.fz Γ1) (hc : X.calm = true := by rfl) (he : S1 X a := by rfl) (hpl : NoStar X pos [] := by rfl) : VE X pa (.Call (.Name "max" p) [a] [] pos) Γ Q :=
  ve_call1 (PMm maxL Q) (pe_callB (cr_maxA hc hu) hg hm bb_max pa_tw (he := he) (hpl := hpl)) h he fun F σ H G0 G Γ α v r ee S c ⟨n, ns, hd, q⟩ => by
    obtain ⟨a, ws, rfl, hq, ra⟩ := c.seq S hd
    have e2 := ra.ints
    subst e2
    exact ⟨a, n, ns, rfl, hq, .trans ee (goal_int S q)⟩
theorem ve_minL {p : Pos} (hu : X.A.units + 64 < cLine) (hg : Gl X "min") (hm : X.mg "min" = none) (h : VE X pa a Γ fun r Γ1 => PMm minL Q r.fz Γ1) (hc : X.calm = true := by rfl) (he : S1 X a := by rfl) (hpl : NoStar X pos [] := by rfl) : VE X pa (.Call (.Name "min" p) [a] [] pos) Γ Q :=
  ve_call1 (PMm minL Q) (pe_callB (cr_minA hc hu) hg hm bb_min pa_tw (he := he) (hpl := hpl)) h he fun F σ H G0 G Γ α v r ee S c ⟨n, ns, hd, q⟩ => by
    obtain ⟨a, ws, rfl, hq, ra⟩ := c.seq S hd
    have e2 := ra.ints
    subst e2
    exact ⟨a, n, ns, rfl, hq, .trans ee (goal_int S q)⟩
/-- all, any of a list of bools -/
def PBs (g : List Bool → Bool) (Q : Rs → Gm → Prop) : Rs → Gm → Prop := fun r Γ => ∃ bs : List Bool, rd Γ r = some (.lst (bs.map D.bl)) ∧ Q (.d (.bl (g bs))) Γ
theorem ve_all {p : Pos} (hg : Gl X "all") (hm : X.mg "all" = none) (h : VE X pa a Γ fun r Γ1 => PBs (fun bs => bs.all id) Q r.fz Γ1) (hc : X.calm = true := by rfl) (he : S1 X a := by rfl) (hpl : NoStar X pos [] := by rfl) : VE X pa (.Call (.Name "all" p) [a] [] pos) Γ Q :=
  ve_call1 (PBs (fun bs => bs.all id) Q) (pe_callB (cr_all hc) hg hm bb_all pa_tw (he := he) (hpl := hpl)) h he fun F σ H G0 G Γ α v r ee S c ⟨bs, hd, q⟩ => by
    obtain ⟨a, ws, rfl, hq, ra⟩ := c.lst S hd
    have e2 := ra.bls
    subst e2
    exact ⟨a, bs, rfl, SqL.of hq, .trans ee (goal_bl S q)⟩
theorem ve_any {p : Pos} (hg : Gl X "any") (hm : X.mg "any" = none) (h : VE X pa a Γ fun r Γ1 => PBs (fun bs => bs.any id) Q r.fz Γ1) (hc : X.calm = true := by rfl) (he : S1 X a := by rfl) (hpl : NoStar X pos [] := by rfl) : VE X pa (.Call (.Name "any" p) [a] [] pos) Γ Q :=
  ve_call1 (PBs (fun bs => bs.any id) Q) (pe_callB (cr_any hc) hg hm bb_any pa_tw (he := he) (hpl := hpl)) h he fun F σ H G0 G Γ α v r ee S c ⟨bs, hd, q⟩ => by
    obtain ⟨a, ws, rfl, hq, ra⟩ := c.lst S hd
    have e2 := ra.bls
    subst e2
    exact ⟨a, bs, rfl, SqL.of hq, .trans ee (goal_bl S q)⟩
/-- tuple(xs), list(xs) -/
def PTup (Q : Rs → Gm → Prop) : Rs → Gm → Prop := fun r Γ => ∃ ds, (rd Γ r = some (.lst ds) ∨ rd Γ r = some (.tup ds)) ∧ Q (.d (.tup ds)) Γ
def PLst (Q : Rs → Gm → Prop) : Rs → Gm → Prop := fun r Γ => ∃ ds, sq Γ r = some ds ∧ Q (.n (.l ds)) Γ
theorem Cv.tupR {K : PySem.W.Frag} {F : Hp} {σ : L2.St} {H G : Hp} {α : Nat → Addr} {v : V} {r : Rs} {ds : List D} (h : Cv K σ G v r) (e : rd Γ r = some (.tup ds)) : Re K G v (.tup ds) := by
  cases r with
  | d y => cases e; exact h
  | n c => exact h.elim
  | s i => obtain ⟨c, hc, ec⟩ := rd_slot e; cases c <;> cases ec
theorem ve_tupleOf {p : Pos} (hg : Gl X "tuple") (hm : X.mg "tuple" = none) (h : VE X pa a Γ fun r Γ1 => PTup Q r.fz Γ1) (he : S1 X a := by rfl) (hpl : NoStar X pos [] := by rfl) : VE X pa (.Call (.Name "tuple" p) [a] [] pos) Γ Q :=
  ve_call1 (PTup Q) (pe_callTy call_tuple_of hg hm bb_tuple pa_tw (he := he) (hpl := hpl)) h he fun F σ H G0 G Γ α v r ee S c ⟨ds, hd, q⟩ => by
    rcases hd with hd | hd
    · obtain ⟨a, ws, rfl, hq, ra⟩ := c.lst S hd
      exact ⟨a, ws, rfl, .inl ⟨SqL.of hq, fun l hl => .trans ee (goal_t S hl ra q)⟩⟩
    · obtain ⟨a, ws, e, hq, ra⟩ := c.tup S hd
      have rt := Cv.tupR (F := F) (H := H) (α := α) c hd
      subst e
      exact ⟨a, ws, rfl, .inr ⟨SqT.of (S.ext _ _ hq), .trans ee (goal_d S rt q)⟩⟩
theorem ve_listOf {p : Pos} (hg : Gl X "list") (hm : X.mg "list" = none) (h : VE X pa a Γ fun r Γ1 => PLst Q r.fz Γ1) (he : S1 X a := by rfl) (hpl : NoStar X pos [] := by rfl) : VE X pa (.Call (.Name "list" p) [a] [] pos) Γ Q :=
  ve_call1 (PLst Q) (pe_callTy call_list_of hg hm bb_list pa_tw (he := he) (hpl := hpl)) h he fun F σ H G0 G Γ α v r ee S c ⟨ds, hd, q⟩ => by
    obtain ⟨a, ws, rfl, hq, ra⟩ := c.seq S hd
    exact ⟨a, ws, rfl, hq, fun l hl => .trans ee (goal_l S hl ra q)⟩
/-- list(range(a)), tuple(range(a)) -/
def rgD (n : Int) : List D := (List.range n.toNat).map fun (i : Nat) => D.int i
theorem rgD_ok {K : PySem.W.Frag} {G : Hp} (n : Int) : ReA K G (rgV 0 n) (rgD n) := by
  unfold rgV rgD
  rw [show (n - 0).toNat = n.toNat by omega]
  induction (List.range n.toNat) with
  | nil => exact .nil
  | cons i r ih => rw [List.map_cons, List.map_cons, Int.zero_add]; exact .cons (.int _) ih
def PRg (Q : Rs → Gm → Prop) (f : List D → Rs) : Rs → Gm → Prop := fun r Γ => ∃ n : Int, r = .d (.int n) ∧ 0 ≤ n ∧ n ≤ 16777216 ∧ Q (f (rgD n)) Γ
theorem ve_listRg {p p2 : Pos} {pos2 : Pos} (hg : Gl X "list") (hm : X.mg "list" = none) (hg2 : Gl X "range") (hm2 : X.mg "range" = none) (h : VE X pa a Γ fun r Γ1 => PRg Q (fun ds => .n (.l ds)) r.fz Γ1) (hc : X.calm = true := by rfl) (he : S1 X a := by rfl)
    (he2 : S1 X (.Call (.Name "range" p2) [a] [] pos2) := by rfl) : VE X pa (.Call (.Name "list" p) [.Call (.Name "range" p2) [a] [] pos2] [] pos) Γ Q := ve_of (pe_listRg hc hg hm (prg_1 hg2 hm2 pe_tw he) he2) fun F σ H G S => by
  refine (h F σ H G S).mono fun v H1 ⟨G1, Γ1, r, e1, S1, n, er, h0, h1, q⟩ => ?_
  obtain ⟨G2, e2, S2⟩ := S1.fz
  have cv := S2.cv
  rw [er] at cv
  obtain ⟨α, S3, _⟩ := S2
  exact ⟨n, cv.intE, RgOk.of_le (Int.le_refl 0) h1 (by omega) h0, fun l hl => Goal.trans (e1.trans e2) (goal_l S3 hl (rgD_ok n) q)⟩
theorem ve_tupRg {p p2 : Pos} {pos2 : Pos} (hg : Gl X "tuple") (hm : X.mg "tuple" = none) (hg2 : Gl X "range") (hm2 : X.mg "range" = none) (h : VE X pa a Γ fun r Γ1 => PRg Q (fun ds => .d (.tup ds)) r.fz Γ1) (hc : X.calm = true := by rfl) (he : S1 X a := by rfl)
    (he2 : S1 X (.Call (.Name "range" p2) [a] [] pos2) := by rfl) : VE X pa (.Call (.Name "tuple" p) [.Call (.Name "range" p2) [a] [] pos2] [] pos) Γ Q := ve_of (pe_tupRg hc hg hm (prg_1 hg2 hm2 pe_tw he) he2) fun F σ H G S => by
  refine (h F σ H G S).mono fun v H1 ⟨G1, Γ1, r, e1, S1, n, er, h0, h1, q⟩ => ?_
  obtain ⟨G2, e2, S2⟩ := S1.fz
  have cv := S2.cv
  rw [er] at cv
  obtain ⟨α, S3, _⟩ := S2
  exact ⟨n, cv.intE, RgOk.of_le (Int.le_refl 0) h1 (by omega) h0, fun l hl => Goal.trans (e1.trans e2) (goal_t S3 hl (rgD_ok n) q)⟩
end
end AV
set_option Elab.async false
set_option linter.all false
set_option maxRecDepth 100000
set_option maxHeartbeats 4000000
namespace AV
open PySem PySem.Spec PyProof.Rows L2
/-! ## isinstance -/
def D.tyN : D → Option String
  | .non => some "NoneType" | .bl _ => some "bool" | .int _ => some "int" | .str _ => some "str"
  | .lst _ => some "list" | .tup _ => some "tuple" | .dct _ => some "dict" | .dtt _ => some "dict"
  | .ins _ _ => none | .typ _ => none | .obj _ => none
  | .ktp _ => some "tuple" | .scr _ => some "list" | .clo _ _ _ => none
/-- what the written part says of an own class -/
abbrev ClsOk (K : PySem.W.Frag) (C : Addr) : Prop := C8.InsC K C
theorem sql_ty {K : PySem.W.Frag} {H : Hp} {a : Addr} {vs : List V} (h : SqL K H a vs) : TyX K H (.ref a) (.type "list") := by
  rcases h with (h | ⟨o, h⟩) | ⟨o, its, n, h, c, _⟩
  · exact .base (.lst h)
  · exact .base (.frz h)
  · exact .kList h c
theorem sqt_ty {K : PySem.W.Frag} {H : Hp} {a : Addr} {vs : List V} (h : SqT K H a vs) : TyX K H (.ref a) (.type "tuple") := by
  rcases h with (h | ⟨o, h⟩) | ⟨o, its, n, h, c, _⟩
  · exact .base (.tup h)
  · exact .fTuple h
  · exact .kTuple h c
theorem Re.tyX {K : PySem.W.Frag} {H : Hp} {v : V} {x : D} {n : String} (h : Re K H v x) (e : x.tyN = some n) : TyX K H v (.type n) := by
  cases h with
  | non => cases e; exact .base .non
  | bl b => cases e; exact .base (.bl b)
  | int i => cases e; exact .base (.int i)
  | str z => cases e; exact .base (.str z)
  | lst a b => cases e; exact sql_ty (SqL.of a)
  | tup a b => cases e; exact sqt_ty (SqT.of a)
  | ktp a b => cases e; exact sqt_ty a
  | scr ns a => cases e; exact sql_ty a
  | ins a b c => cases e
  | dct a b c => cases e; exact .base (.dK a)
  | dtt a b c => cases e; exact .base (.dT a)
  | typ n => cases e
  | obj a => cases e
  | clo a b c => cases e
section
variable {X : Cx} {pa : Pin} {e a b o : Expr} {es : List Expr} {Γ Γ' : Gm} {Q Q' : Rs → Gm → Prop} {pos p1 p2 apos cpos : Pos}
/-- isinstance(x, T), T a built-in class -/
def PIsi (T : String) (Q : Rs → Gm → Prop) : Rs → Rs → Gm → Prop := fun r s Γ => ∃ x n b, s = .d (.typ T) ∧ rd Γ r = some x ∧ x.tyN = some n ∧ kitB n T = some b ∧ Q (.d (.bl b)) Γ
theorem ve_typ {x : Str} {T : String} (hg : Gl X x) (hm : X.mg x = none) (hv : bootBuiltins x = some (.type T)) (q : Q (.d (.typ T)) Γ) (hn : x ≠ "__name__" := by decide) (hd : (x == ("__debug__" : Str)) = false := by decide) : VE X pa (.Name x pos) Γ Q :=
  ve_val (v := .ty T) (pe_bltn hg hm hv rfl hn hd) (fun _ _ => .typ T) q
theorem ve_isi {p : Pos} (T : String) (hg : Gl X "isinstance") (hm : X.mg "isinstance" = none) (h : VE X pa a Γ fun r Γ1 => VE X pa b Γ1 fun s Γ2 => PIsi T Q r.fz s.fz Γ2)
    (he : S2 X a b := by rfl) (he2 : S1 X b := by rfl) (hpl : NoStar X pos [b] := by rfl) : VE X pa (.Call (.Name "isinstance" p) [a, b] [] pos) Γ Q :=
  ve_call2 (PIsi T Q) (pe_callB call_isi hg hm bb_isi pa_tw (he := he) (hpl := hpl)) h he he2 fun F σ H G0 G Γ α v w r s ee S c1 c2 ⟨x, n, b, es, hx, hn, hk, q⟩ => by
    subst es
    have hw : w = .ty T := by have h := c2.lay; cases h; rfl
    subst hw
    exact ⟨v, .ty T, _, .type T, b, rfl, .ty T, (c1.look S hx).tyX hn, kit_ty hk, Goal.trans ee (goal_bl S q)⟩
/-- isinstance(x, C), C a class of the program -/
def PIsC (K : PySem.W.Frag) (C : Addr) (Q : Rs → Gm → Prop) : Rs → Rs → Gm → Prop := fun r s Γ => s = .d (.obj C) ∧ ((∃ fs, rd Γ r = some (.ins C fs) ∧ ClsOk K C ∧ Q (.d (.bl true)) Γ) ∨
  ∃ x n, rd Γ r = some x ∧ x.tyN = some n ∧ PySem.W.kitOne K (.type n) (.ref C) = some false ∧ Q (.d (.bl false)) Γ)
theorem ve_isC {p : Pos} (C : Addr) (hg : Gl X "isinstance") (hm : X.mg "isinstance" = none) (h : VE X pa a Γ fun r Γ1 => VE X pa b Γ1 fun s Γ2 => PIsC X.K C Q r.fz s.fz Γ2)
    (he : S2 X a b := by rfl) (he2 : S1 X b := by rfl) (hpl : NoStar X pos [b] := by rfl) : VE X pa (.Call (.Name "isinstance" p) [a, b] [] pos) Γ Q :=
  ve_call2 (PIsC X.K C Q) (pe_callB call_isi hg hm bb_isi pa_tw (he := he) (hpl := hpl)) h he he2 fun F σ H G0 G Γ α v w r s ee S c1 c2 ⟨es, hq⟩ => by
    subst es
    have hw : w = .ref C := by have h := c2.lay; cases h; rfl
    subst hw
    rcases hq with ⟨fs, hx, k, q⟩ | ⟨x, n, hx, hn, hk, q⟩
    · have h1 := c1.look S hx
      cases h1 with
      | ins ha hn hr => exact ⟨_, .ref C, .ref C, .ref C, true, rfl, .own C, .base (.ins ha k.cl k.ha k.hn k.htk k.hm), k.me, Goal.trans ee (goal_bl S q)⟩
    · exact ⟨v, .ref C, _, .ref C, false, rfl, .own C, (c1.look S hx).tyX hn, hk, Goal.trans ee (goal_bl S q)⟩
/-! ## displays, subscripts, slices -/
def RDs (Q : Rs → Gm → Prop) (f : List D → Rs) : List Rs → Gm → Prop := fun rs Γ => ∃ ds, rs = ds.map Rs.d ∧ ds.length ≤ 100000 ∧ Q (f ds) Γ
theorem CvA.ds {K : PySem.W.Frag} {σ : L2.St} {G : Hp} : ∀ {vs : List V} {ds : List D}, CvA K σ G vs (ds.map Rs.d) → ReA K G vs ds
  | _, [], .nil => .nil
  | _, d :: ds, .cons a b => .cons a.lay (CvA.ds b)
theorem sz5 {n : Nat} (h : n ≤ 100000) : n ≤ sizeLine := Nat.le_trans h (by rw [sizeLine_eq]; decide)
theorem ve_tup {k : Nat} (h : VA X pa es Γ (RDs Q fun ds => .d (.tup ds))) : VE X pa (.Tuple es k pos) Γ Q := ve_of (pe_tup pa_tw) fun F σ H G S =>
  (h F σ H G S).mono fun vs H1 ⟨G1, Γ1, rs, e1, ⟨α, S1⟩, cv, ds, er, hl, q⟩ => by
    subst er
    have ra := cv.ds
    exact ⟨by rw [ra.length]; exact sz5 hl, fun p hp => Goal.trans e1 (goal_t S1 hp ra q)⟩
theorem ve_lst (h : VA X pa es Γ (RDs Q fun ds => .n (.l ds))) : VE X pa (.List es pos) Γ Q := ve_of (pe_lst pa_tw) fun F σ H G S =>
  (h F σ H G S).mono fun vs H1 ⟨G1, Γ1, rs, e1, ⟨α, S1⟩, cv, ds, er, hl, q⟩ => by
    subst er
    have ra := cv.ds
    exact ⟨by rw [ra.length]; exact sz5 hl, fun p hp => Goal.trans e1 (goal_l S1 hp ra q)⟩
/-- {} with keys that are ints and texts; with tuple keys -/
theorem ve_dnewK (q : Q (.n (.k [])) Γ) : VE X pa (.Dict [] [] pos) Γ Q := ve_of pe_dnewK fun F σ H G ⟨α, S⟩ => fun p hp => ⟨G, Γ, .n (.k []), Ex.refl G, S.new hp ⟨[], rfl, rfl, .nil⟩, q⟩
theorem ve_dnewT (q : Q (.n (.t [])) Γ) : VE X pa (.Dict [] [] pos) Γ Q := ve_of pe_dnewT fun F σ H G ⟨α, S⟩ => fun p hp => ⟨G, Γ, .n (.t []), Ex.refl G, S.new hp ⟨[], rfl, rfl, .nil⟩, q⟩
/-- xs[i] -/
def RIx (Q : Rs → Gm → Prop) : Rs → Rs → Gm → Prop := fun r s Γ => ∃ ds i x, sq Γ r = some ds ∧ s = .d (.int i) ∧ atI ds i = some x ∧ Q (.d x) Γ
theorem atI_re {K : PySem.W.Frag} {G : Hp} {vs : List V} {ds : List D} {i : Int} {x : D} (h : ReA K G vs ds) (e : atI ds i = some x) : ∃ v, atI vs i = some v ∧ Re K G v x := by
  unfold atI at e ⊢
  rw [h.length]
  cases q : ixN ds.length i with
  | none => rw [q] at e; cases e
  | some j => rw [q] at e; exact h.get e
theorem ve_ix (h : VE X pa a Γ fun r Γ1 => VE X pa b Γ1 fun s Γ2 => RIx Q r.fz s.fz Γ2) (hs : PlainIx b := by exact fun _ _ => rfl) : VE X pa (.Subscript a b pos) Γ Q :=
  ve_two (R := RIx Q) (pe_ix ix_seq pe_tw pe_tw hs) (fun F σ H G0 G Γ α v w r s ee S cv cw ⟨ds, i, x, hd, es, hx, q⟩ => by
    subst es
    have ew := cw.intE
    subst ew
    obtain ⟨p, vs, rfl, hq, ra⟩ := cv.seq S hd
    obtain ⟨u, hu, ru⟩ := atI_re ra hx
    rcases hq with hq | hq
    · exact .inl ⟨p, vs, i, u, rfl, rfl, hq, hu, Goal.trans ee (goal_d S ru q)⟩
    · exact .inr (.inl ⟨p, vs, i, u, rfl, rfl, hq, hu, Goal.trans ee (goal_d S ru q)⟩)) h
/-- s[i] of a text -/
def RIxS (Q : Rs → Gm → Prop) : Rs → Rs → Gm → Prop := fun r s Γ => ∃ z i c, r = .d (.str z) ∧ s = .d (.int i) ∧ z.length ≤ sizeLine ∧ atI z.cps.toList i = some c ∧ Q (.d (.str ⟨#[c]⟩)) Γ
theorem ve_ixS (h : VE X pa a Γ fun r Γ1 => VE X pa b Γ1 fun s Γ2 => RIxS Q r.fz s.fz Γ2) (hs : PlainIx b := by exact fun _ _ => rfl) : VE X pa (.Subscript a b pos) Γ Q :=
  ve_two (R := RIxS Q) (pe_ix ix_str pe_tw pe_tw hs) (fun F σ H G0 G Γ α v w r s ee S cv cw ⟨z, i, c, er, es, hz, hx, q⟩ => by
    subst er; subst es
    exact ⟨z, i, c, cv.strE, cw.intE, hz, hx, Goal.trans ee (goal_str S q)⟩) h
/-- the parts of a slice -/
def VO (X : Cx) (pa : Pin) (e : Option Expr) (Γ : Gm) (i : Option Int) : Prop := ∀ (F : Hp) (σ : L2.St) (H G : Hp) (t : Prop), Sk0 X.K pa F σ H G Γ → True
def cutD (xs : List D) (lo hi : Option Int) : List D := (xs.drop (HT.sIx xs.length 0 lo)).take (HT.sIx xs.length xs.length hi - HT.sIx xs.length 0 lo)
theorem cut_re {K : PySem.W.Frag} {G : Hp} {vs : List V} {ds : List D} (h : ReA K G vs ds) (lo hi : Option Int) : ReA K G (cutV vs lo hi) (cutD ds lo hi) := by
  unfold cutV cutD
  rw [h.length]
  exact (h.drop _).take _
/-- a part: none, or an int told ahead -/
inductive PartIs (X : Cx) (pa : Pin) (Γ : Gm) : Option Expr → Option Int → Prop where
  | no : PartIs X pa Γ none none
  | yes {e : Expr} {i : Int} (h : VE X pa e Γ fun r Γ1 => r = .d (.int i) ∧ Γ1 = Γ) : PartIs X pa Γ (some e) (some i)
def twO (X : Cx) (e : Option Expr) : TO := match e with
  | none => tNoPart
  | some e => tPart (tw X e)
theorem po_tw {X : Cx} : ∀ {e : Option Expr}, PO X e (twO X e)
  | none => po_none
  | some _ => po_some pe_tw
theorem PartIs.run {X : Cx} {pa : Pin} {Γ : Gm} {e : Option Expr} {i : Option Int} (h : PartIs X pa Γ e i) {F : Hp} {σ : L2.St} {H G : Hp} (S : Sk0 X.K pa F σ H G Γ) {Q : Option Int → Hp → Prop}
    (q : ∀ H1 G1, Ex G G1 → Sk0 X.K pa F σ H1 G1 Γ → Q i H1) : twO X e σ H Q := by
  cases h with
  | no => exact q H G (Ex.refl G) S
  | yes h =>
    refine (h F σ H G S).mono ?_
    rintro v H1 ⟨G1, Γ1, r, e1, ⟨α, S1, rv⟩, er, eg⟩
    subst er; subst eg
    exact ⟨_, Re.intE rv, q H1 G1 e1 ⟨α, S1⟩⟩
def PSl (lo hi : Option Int) (Q : Rs → Gm → Prop) : Rs → Gm → Prop := fun r Γ => (∃ ds, rd Γ r = some (.lst ds) ∧ Q (.n (.l (cutD ds lo hi))) Γ) ∨ ∃ ds, rd Γ r = some (.tup ds) ∧ Q (.d (.tup (cutD ds lo hi))) Γ
/-- xs[lo:hi], lo and hi told ahead -/
theorem ve_sl {lo hi : Option Expr} {i j : Option Int} {p : Pos} (h : VE X pa a Γ fun r Γ1 => PartIs X pa Γ1 lo i ∧ PartIs X pa Γ1 hi j ∧ PSl i j Q r.fz Γ1) : VE X pa (.Subscript a (.Slice lo hi none p) pos) Γ Q :=
  ve_of (pe_slice (sl_list.or sl_tupA) pe_tw po_tw po_tw) fun F σ H G S => by
    refine (h F σ H G S).mono fun v H1 ⟨G1, Γ1, r, e1, S1, p1, p2, q⟩ => ?_
    obtain ⟨G2, e2, S2⟩ := S1.fz
    have cv := S2.cv
    obtain ⟨α, S3, _⟩ := S2
    refine p1.run ⟨α, S3⟩ fun H3 G3 e3 S3 => p2.run S3 fun H4 G4 e4 S4 => ?_
    obtain ⟨α4, S4⟩ := S4
    have c4 := (cv.mono e3).mono e4
    have ee := ((e1.trans e2).trans e3).trans e4
    rcases q with ⟨ds, hd, q⟩ | ⟨ds, hd, q⟩
    · obtain ⟨p, vs, rfl, hq, ra⟩ := c4.lst S4 hd
      exact .inl ⟨p, vs, rfl, SqL.of hq, fun l hl => Goal.trans ee (goal_l S4 hl (cut_re ra i j) q)⟩
    · obtain ⟨p, vs, ev, hq, ra⟩ := c4.tup S4 hd
      have rt := Cv.tupR (F := F) (H := H4) (α := α4) c4 hd
      subst ev
      refine .inr ⟨p, vs, rfl, SqT.of (S4.ext _ _ hq), fun hw => ?_, fun hw l hl => Goal.trans ee (goal_t S4 hl (cut_re ra i j) q)⟩
      refine Goal.trans ee (goal_d S4 (x := .tup (cutD ds i j)) ?_ q)
      have el := ra.length
      rw [show cutD ds i j = ds from by
        unfold cutD
        rw [← el, hw.1, hw.2, List.drop_zero, Nat.sub_zero, el, List.take_length]]
      exact rt
/-- xs[::-1] -/
def PRev (Q : Rs → Gm → Prop) : Rs → Gm → Prop := fun r Γ => ∃ ds, rd Γ r = some (.lst ds) ∧ Q (.n (.l ds.reverse)) Γ
theorem ve_revL {k : Nat} {p1 p2 p3 : Pos} (h : VE X pa a Γ fun r Γ1 => PRev Q r.fz Γ1) : VE X pa (.Subscript a (.Slice none none (some (.UnaryOp .USub (.Constant (.int 1) k p1) p2)) p3) pos) Γ Q :=
  ve_of (pe_revL pe_tw) fun F σ H G S => by
    refine (h F σ H G S).mono fun v H1 ⟨G1, Γ1, r, e1, S1, ds, hd, q⟩ => ?_
    obtain ⟨G2, e2, S2⟩ := S1.fz
    have cv := S2.cv
    obtain ⟨α, S3, _⟩ := S2
    obtain ⟨p, vs, rfl, hq, ra⟩ := cv.lst S3 hd
    exact ⟨p, vs, rfl, SqL.of hq, fun l hl => Goal.trans (e1.trans e2) (goal_l S3 hl ra.reverse q)⟩
/-! ## joining, repeating -/
def RCat (Q : Rs → Gm → Prop) : Rs → Rs → Gm → Prop := fun r s Γ => ∃ xs ys, rd Γ r = some (.lst xs) ∧ rd Γ s = some (.lst ys) ∧ xs.length + ys.length ≤ sizeLine ∧ Q (.n (.l (xs ++ ys))) Γ
/-- a list that stands in the heap as such -/
def Cv.hl {K : PySem.W.Frag} {σ : L2.St} {G : Hp} {v : V} {r : Rs} (H : Hp) (h : Cv K σ G v r) : Prop := ∃ a vs, v = .ref a ∧ H a = some (.lst vs)
def RCatT (Q : Rs → Gm → Prop) : Rs → Rs → Gm → Prop := fun r s Γ => ∃ xs ys, rd Γ r = some (.tup xs) ∧ rd Γ s = some (.tup ys) ∧ xs.length + ys.length ≤ sizeLine ∧ Q (.d (.tup (xs ++ ys))) Γ
theorem ve_catT (h : VE X pa a Γ fun r Γ1 => VE X pa b Γ1 fun s Γ2 => RCatT Q r.fz s.fz Γ2) : VE X pa (.BinOp a .Add b pos) Γ Q :=
  ve_two (R := RCatT Q) (pe_op op_catA pe_tw pe_tw) (fun F σ H G0 G Γ α v w r s ee S cv cw ⟨xs, ys, hx, hy, hz, q⟩ => by
    have rt1 := Cv.tupR (F := F) (H := H) (α := α) cv hx
    have rt2 := Cv.tupR (F := F) (H := H) (α := α) cw hy
    obtain ⟨p, vs, ev, hq, ra⟩ := cv.tup S hx
    obtain ⟨p', ws, ew, hq', ra'⟩ := cw.tup S hy
    subst ev; subst ew
    refine ⟨p, p', vs, ws, rfl, rfl, SqT.of (S.ext _ _ hq), SqT.of (S.ext _ _ hq'), by rw [ra.length, ra'.length]; exact hz, fun z => ?_, fun _ z => ?_, fun _ _ l hl => Goal.trans ee (goal_t S hl (ra.append ra') q)⟩
    · subst z; cases ra; exact Goal.trans ee (goal_d S rt2 q)
    · subst z; cases ra'; rw [List.append_nil] at q; exact Goal.trans ee (goal_d S rt1 q)) h
def RAddS (Q : Rs → Gm → Prop) : Rs → Rs → Gm → Prop := fun r s Γ => ∃ i j, r = .d (.str i) ∧ s = .d (.str j) ∧ i.length + j.length ≤ sizeLine ∧ Q (.d (.str (i ++ j))) Γ
theorem ve_addS (h : VE X pa a Γ fun r Γ1 => VE X pa b Γ1 fun s Γ2 => RAddS Q r.fz s.fz Γ2) : VE X pa (.BinOp a .Add b pos) Γ Q :=
  ve_two (R := RAddS Q) (pe_op op_add_str pe_tw pe_tw) (fun F σ H G0 G Γ α v w r s ee S cv cw ⟨i, j, er, es, hz, q⟩ => by
    subst er; subst es
    exact ⟨i, j, cv.strE, cw.strE, hz, Goal.trans ee (goal_str S q)⟩) h
/-! ## attributes -/
def PFld (K : PySem.W.Frag) (f : Str) (Q : Rs → Gm → Prop) : Rs → Gm → Prop := fun r Γ => ∃ C fs x, r = .d (.ins C fs) ∧ Cls K C ∧ NoAttr K C f ∧ fs.lookup f = some x ∧ Q (.d x) Γ
theorem lookup_re {K : PySem.W.Frag} {G : Hp} {f : Str} {x : D} : ∀ {fs : List (Str × V)} {ds : List (Str × D)}, fs.map (·.1) = ds.map (·.1) → ReA K G (fs.map (·.2)) (ds.map (·.2)) → ds.lookup f = some x → ∃ v, fs.lookup f = some v ∧ Re K G v x
  | [], [], _, _, h => by simp at h
  | [], _ :: _, e, _, _ => by simp at e
  | _ :: _, [], e, _, _ => by simp at e
  | (n, v) :: fs, (m, d) :: ds, e, r, h => by
    simp only [List.map_cons, List.cons.injEq] at e
    obtain ⟨e1, e2⟩ := e
    have e1 : n = m := e1
    subst e1
    cases r with
    | cons r1 r2 =>
      rw [List.lookup_cons] at h ⊢
      cases q : f == n with
      | true => rw [q] at h; cases h; exact ⟨v, rfl, r1⟩
      | false => rw [q] at h; exact lookup_re e2 r2 h
theorem ve_fld {f : Str} (h : VE X pa o Γ fun r Γ1 => PFld X.K f Q r.fz Γ1) (hb : attributeBase o f X.env (eval o X.env) = eval o X.env := by rfl) : VE X pa (.Attribute o f pos) Γ Q := ve_of (pe_fld pe_tw hb) fun F σ H G S => by
  refine (h F σ H G S).mono fun v H1 ⟨G1, Γ1, r, e1, S1, C, fs, x, er, c, n, hl, q⟩ => ?_
  obtain ⟨G2, e2, S2⟩ := S1.fz
  have cv := S2.cv
  rw [er] at cv
  obtain ⟨α, S3, _⟩ := S2
  have h1 : Re X.K G2 v (.ins C fs) := cv
  cases h1 with
  | ins ha hn hr =>
    obtain ⟨u, hu, ru⟩ := lookup_re hn hr hl
    exact ⟨_, C, _, _, u, rfl, S3.ext _ _ ha, c, n, hu, Goal.trans (e1.trans e2) (goal_d S3 ru q)⟩
/-! ## methods of lists of ours -/
/-- an object of a slot's own is changed -/
theorem Sk.upd {K : PySem.W.Frag} {F : Hp} {σ : L2.St} {H G : Hp} {α : Nat → Addr} {i : Nat} {c c' : C} {ho : HO} (S : Sk K pa F σ H G Γ α) (hi : Γ[i]? = some (some (.o c))) (rc : RC K G ho c') :
    Sk K pa F σ (L2.upd H (α i) ho) G (Γ.set i (some (.o c'))) α where
  ext := fun a u h => by
    obtain ⟨_, g0, _⟩ := S.ow hi
    rw [upd_ne (ne_of_none h g0)]; exact S.ext a u h
  tab := S.tab
  fr := fun a u h => by
    obtain ⟨_, g0, f0, _⟩ := S.ow hi
    obtain ⟨h1, h2⟩ := S.fr a u h
    exact ⟨h1.mono (Ex.refl _) fun u' q => by rw [upd_ne (ne_of_none h f0)]; exact q, h2⟩
  len := by simpa using S.len
  sl := fun j it hj => by
    obtain ⟨e1, g0, f0, ho0, hH, _⟩ := S.ow hi
    rcases set_of hj with ⟨e, hl, e2⟩ | ⟨e, hj⟩
    · subst e; cases e2
      exact ⟨e1, g0, f0, ho, upd_same, rc⟩
    · have q := S.sl j it hj
      cases it with
      | d z => exact q
      | o c2 =>
        obtain ⟨q1, q2, q3, ho2, q4, q5⟩ := q
        exact ⟨q1, q2, q3, ho2, by rw [upd_ne (fun z => e (S.inj j i _ _ hj hi z).symm)]; exact q4, q5⟩
  inj := fun j k c1 c2 hj hk => by
    have f : ∀ {m : Nat} {c3 : C}, (Γ.set i (some (.o c')))[m]? = some (some (.o c3)) → ∃ c4, Γ[m]? = some (some (.o c4)) := fun {m c3} h => by
      rcases set_of h with ⟨e, _, _⟩ | ⟨_, h⟩
      · subst e; exact ⟨c, hi⟩
      · exact ⟨c3, h⟩
    obtain ⟨c3, h3⟩ := f hj
    obtain ⟨c4, h4⟩ := f hk
    exact S.inj j k c3 c4 h3 h4
  pin := fun j p hj => by
    obtain ⟨q1, c2, q2⟩ := S.pin j p hj
    refine ⟨q1, ?_⟩
    by_cases e : i = j
    · subst e
      exact ⟨c', by rw [List.getElem?_set_self (List.getElem?_eq_some_iff.mp hi).1]⟩
    · exact ⟨c2, by rw [List.getElem?_set_ne e]; exact q2⟩
/-- a slot's own list, where it stands -/
theorem Sk.own {K : PySem.W.Frag} {F : Hp} {σ : L2.St} {H G : Hp} {α : Nat → Addr} {i : Nat} {v : V} {ds : List D} (S : Sk K pa F σ H G Γ α) (c : Cv K σ G v (.s i)) (hi : Γ[i]? = some (some (.o (.l ds)))) : ∃ vs, v = .ref (α i) ∧ H (α i) = some (.lst vs) ∧ ReA K G vs ds := by
  obtain ⟨e1, g0, f0, ho, hH, vs, rfl, ra⟩ := S.ow hi
  have c' : σ[i]? = some (some v) := c
  rw [c'] at e1; cases e1
  exact ⟨vs, rfl, hH, ra⟩
theorem ve_bm {name : Str} {T id : String} {r : V → List V → Hp → VK → Prop} (T0 : Rs → Gm → Prop) (R : Rs → List Rs → Gm → Prop) (pl : PlainAttrs T) (slot : Slot T name id) (hty : typeOf (.builtin id) = pure (.type "method_descriptor")) (hm : MtR X id r)
    (h : VE X pa o Γ fun r Γ1 => T0 r.fz Γ1 ∧ VA X pa (e :: es) Γ1 fun rs Γ2 => R r.fz rs Γ2)
    (hT : ∀ (F : Hp) (σ : L2.St) (H G : Hp) (Γ : Gm) (α : Nat → Addr) (v : V) (r : Rs), Sk X.K pa F σ H G Γ α → Cv X.K σ G v r → T0 r Γ → tyV X.K T v H)
    (sem : ∀ (F : Hp) (σ : L2.St) (H G0 G : Hp) (Γ : Gm) (α : Nat → Addr) (v : V) (rr : Rs) (vs : List V) (rs : List Rs), Ex G0 G → Sk X.K pa F σ H G Γ α → Cv X.K σ G v rr → CvA X.K σ G vs rs → R rr rs Γ → r v vs H (Goal X pa F σ G0 Q))
    (hbase : attributeBase o name X.env (eval o X.env) = eval o X.env)
    (hfew : ((backTo cpos (starEach (e :: es) X.env)).all (fun x => !x.1) && (backToKw cpos (keywordEach [] X.env)).all (fun x => x.1.isSome)
      && decide ((e :: es).length + ([] : List Keyword).length + (if ([] : List Keyword).isEmpty then 0 else 1) < 30)) = true)
    (hline : (apos.endLine == cpos.line) = true) (hs : starEach (e :: es) X.env = (false, eval e X.env) :: starEach es X.env) (hplain : (backTo cpos (starEach es X.env)).any (·.1) = false) :
    VE X pa (.Call (.Attribute o name apos) (e :: es) [] cpos) Γ Q := ve_of (pe_bm pl slot hty hm pe_tw pa_tw hbase hfew hline hs hplain) fun F σ H G S => by
  refine (h F σ H G S).mono fun v H1 ⟨G1, Γ1, r, e1, S1, t0, q⟩ => ?_
  obtain ⟨G2, e2, S2⟩ := S1.fz
  have cv := S2.cv
  obtain ⟨α, S3, _⟩ := S2
  refine ⟨hT F σ H1 G2 Γ1 α v _ S3 cv t0, ?_⟩
  refine (q F σ H1 G2 ⟨α, S3⟩).mono fun vs H2 ⟨G3, Γ3, rs, e3, ⟨α3, S4⟩, cvs, q3⟩ => ?_
  exact sem F σ H2 G G3 Γ3 α3 v _ vs rs ((e1.trans e2).trans e3) S4 (cv.mono e3) cvs q3
abbrev Few (X : Cx) (cpos : Pos) (es : List Expr) : Prop := ((backTo cpos (starEach es X.env)).all (fun x => !x.1) && (backToKw cpos (keywordEach [] X.env)).all (fun x => x.1.isSome)
      && decide (es.length + ([] : List Keyword).length + (if ([] : List Keyword).isEmpty then 0 else 1) < 30)) = true
end
end AV
set_option Elab.async false
set_option linter.all false
set_option maxRecDepth 100000
set_option maxHeartbeats 4000000
namespace AV
open PySem PySem.Spec PyProof.Rows L2
section
variable {X : Cx} {pa : Pin} {e a b o : Expr} {es : List Expr} {Γ Γ' : Gm} {Q Q' : Rs → Gm → Prop} {T : En} {pos p1 p2 apos cpos : Pos}
/-! ## methods of lists -/
def TL : Rs → Gm → Prop := fun r Γ => ∃ i ds, r = .s i ∧ Γ[i]? = some (some (.o (.l ds)))
theorem TL.ty {F : Hp} {σ : L2.St} {H G : Hp} {α : Nat → Addr} {v : V} {r : Rs} (S : Sk X.K pa F σ H G Γ α) (c : Cv X.K σ G v r) (t : TL r Γ) : tyV X.K "list" v H := by
  obtain ⟨i, ds, er, hi⟩ := t
  subst er
  obtain ⟨vs, ev, hH, _⟩ := S.own c hi
  subst ev
  exact .inl ⟨rfl, vs, SqL.of hH⟩
theorem rcl {K : PySem.W.Frag} {G : Hp} {vs : List V} {ds : List D} (h : ReA K G vs ds) : RC K G (.lst vs) (.l ds) := ⟨vs, rfl, h⟩
/-- what a method that changes the list leaves -/
theorem goal_s {F : Hp} {σ : L2.St} {H G : Hp} {α : Nat → Addr} {i : Nat} {c c' : C} {ho : HO} {v : V} {x : D} (S : Sk X.K pa F σ H G Γ α) (hi : Γ[i]? = some (some (.o c))) (rc : RC X.K G ho c') (hx : Re X.K G v x) (q : Q (.d x) (Γ.set i (some (.o c')))) :
    Goal X pa F σ G Q v (upd H (α i) ho) := ⟨G, _, .d x, Ex.refl G, ⟨α, S.upd hi rc, hx⟩, q⟩
def RApp (Q : Rs → Gm → Prop) : Rs → List Rs → Gm → Prop := fun r rs Γ => ∃ i ds x, r = .s i ∧ rs = [.d x] ∧ Γ[i]? = some (some (.o (.l ds))) ∧ ds.length ≤ 100000 ∧ Q (.d .non) (Γ.set i (some (.o (.l (ds ++ [x])))))
theorem ve_append (h : VE X pa o Γ fun r Γ1 => TL r.fz Γ1 ∧ VA X pa [e] Γ1 fun rs Γ2 => RApp Q r.fz rs Γ2)
    (hbase : attributeBase o "append" X.env (eval o X.env) = eval o X.env := by rfl) (hfew : Few X cpos [e] := by rfl) (hline : (apos.endLine == cpos.line) = true := by rfl) (hs : S1 X e := by rfl) (hplain : NoStar X cpos [] := by rfl) : VE X pa (.Call (.Attribute o "append" apos) [e] [] cpos) Γ Q :=
  ve_bm TL (RApp Q) PySem.F.plainAttrs_list PySem.F.slot_list_append PySem.F.type_list_append mt_append h (fun F σ H G Γ α v r S c t => TL.ty S c t) (fun F σ H G0 G Γ α v rr vs rs ee S c cs ⟨i, ds, x, er, es, hi, hl, q⟩ => by
    subst er; subst es
    obtain ⟨ws, ev, hH, ra⟩ := S.own c hi
    obtain ⟨u, eu, cu⟩ := cs.one
    subst ev; subst eu
    exact ⟨_, ws, u, rfl, rfl, hH, by rw [ra.length, sizeLine_eq]; omega, .trans ee (goal_s S hi (rcl (ra.append (.one cu.lay))) .non q)⟩) hbase hfew hline hs hplain
def RExt (Q : Rs → Gm → Prop) : Rs → List Rs → Gm → Prop := fun r rs Γ => ∃ i ds s xs, r = .s i ∧ rs = [s] ∧ rd Γ s = some (.lst xs) ∧ Γ[i]? = some (some (.o (.l ds))) ∧ ds.length + xs.length ≤ 100000 ∧ Q (.d .non) (Γ.set i (some (.o (.l (ds ++ xs)))))
theorem ve_extend (h : VE X pa o Γ fun r Γ1 => TL r.fz Γ1 ∧ VA X pa [e] Γ1 fun rs Γ2 => RExt Q r.fz rs Γ2)
    (hbase : attributeBase o "extend" X.env (eval o X.env) = eval o X.env := by rfl) (hfew : Few X cpos [e] := by rfl) (hline : (apos.endLine == cpos.line) = true := by rfl) (hs : S1 X e := by rfl) (hplain : NoStar X cpos [] := by rfl) : VE X pa (.Call (.Attribute o "extend" apos) [e] [] cpos) Γ Q :=
  ve_bm TL (RExt Q) PySem.F.plainAttrs_list PySem.F.slot_list_extend PySem.F.type_list_extend mt_extend h (fun F σ H G Γ α v r S c t => TL.ty S c t) (fun F σ H G0 G Γ α v rr vs rs ee S c cs ⟨i, ds, s, xs, er, es, hx, hi, hl, q⟩ => by
    subst er; subst es
    obtain ⟨ws, ev, hH, ra⟩ := S.own c hi
    obtain ⟨u, eu, cu⟩ := cs.one
    obtain ⟨b, zs, eb, hb, rb⟩ := cu.lst S hx
    subst ev; subst eu; subst eb
    exact ⟨_, b, ws, zs, rfl, rfl, hH, hb, by rw [ra.length, rb.length, sizeLine_eq]; omega, .trans ee (goal_s S hi (rcl (ra.append rb)) .non q)⟩) hbase hfew hline hs hplain
def RPopAt (Q : Rs → Gm → Prop) : Rs → List Rs → Gm → Prop := fun r rs Γ => ∃ i ds k j x, r = .s i ∧ rs = [.d (.int k)] ∧ Γ[i]? = some (some (.o (.l ds))) ∧ -(2 ^ 63) ≤ k ∧ k < 2 ^ 63 ∧ ixN ds.length k = some j ∧ ds[j]? = some x ∧ Q (.d x) (Γ.set i (some (.o (.l (ds.eraseIdx j)))))
theorem ve_popAt (h : VE X pa o Γ fun r Γ1 => TL r.fz Γ1 ∧ VA X pa [e] Γ1 fun rs Γ2 => RPopAt Q r.fz rs Γ2)
    (hbase : attributeBase o "pop" X.env (eval o X.env) = eval o X.env := by rfl) (hfew : Few X cpos [e] := by rfl) (hline : (apos.endLine == cpos.line) = true := by rfl) (hs : S1 X e := by rfl) (hplain : NoStar X cpos [] := by rfl) : VE X pa (.Call (.Attribute o "pop" apos) [e] [] cpos) Γ Q :=
  ve_bm TL (RPopAt Q) PySem.F.plainAttrs_list PySem.F.slot_list_pop PySem.F.type_list_pop mt_popAt h (fun F σ H G Γ α v r S c t => TL.ty S c t) (fun F σ H G0 G Γ α v rr vs rs ee S c cs ⟨i, ds, k, j, x, er, es, hi, h1, h2, hj, hx, q⟩ => by
    subst er; subst es
    obtain ⟨ws, ev, hH, ra⟩ := S.own c hi
    obtain ⟨u, eu, cu⟩ := cs.one
    subst ev; subst eu
    have eu := cu.intE
    subst eu
    obtain ⟨w, hw, rw'⟩ := ra.get hx
    exact ⟨_, ws, k, j, w, rfl, rfl, hH, h1, h2, by rw [ra.length]; exact (ixN_seq hj).1, hw, .trans ee (goal_s S hi (rcl (ra.eraseIdx j)) rw' q)⟩) hbase hfew hline hs hplain
/-- xs.index(x): a list, its items fit for == -/
def RIndex (Q : Rs → Gm → Prop) : Rs → List Rs → Gm → Prop := fun r rs Γ => ∃ ds s x j, rs = [s] ∧ rd Γ r = some (.lst ds) ∧ rd Γ s = some x ∧ (D.lst ds).fit = true ∧ x.fit = true ∧ (∃ z, ds[j]? = some z ∧ PyData.eqv z.py x.py = true) ∧ (∀ (m : Nat) z', m < j → ds[m]? = some z' → PyData.eqv z'.py x.py = false) ∧ Q (.d (.int (j : Nat))) Γ
def TLs : Rs → Gm → Prop := fun r Γ => ∃ ds, rd Γ r = some (.lst ds)
theorem TLs.ty {F : Hp} {σ : L2.St} {H G : Hp} {α : Nat → Addr} {v : V} {r : Rs} (S : Sk X.K pa F σ H G Γ α) (c : Cv X.K σ G v r) (t : TLs r Γ) : tyV X.K "list" v H := by
  obtain ⟨ds, er⟩ := t
  obtain ⟨a, vs, ev, hH, _⟩ := c.lst S er
  subst ev
  exact .inl ⟨rfl, vs, SqL.of hH⟩
theorem ve_index (hu : X.A.units + 65 < cLine) (h : VE X pa o Γ fun r Γ1 => TLs r.fz Γ1 ∧ VA X pa [e] Γ1 fun rs Γ2 => RIndex Q r.fz rs Γ2)
    (hbase : attributeBase o "index" X.env (eval o X.env) = eval o X.env := by rfl) (hfew : Few X cpos [e] := by rfl) (hline : (apos.endLine == cpos.line) = true := by rfl) (hs : S1 X e := by rfl) (hplain : NoStar X cpos [] := by rfl) : VE X pa (.Call (.Attribute o "index" apos) [e] [] cpos) Γ Q :=
  ve_bm TLs (RIndex Q) PySem.F.plainAttrs_list PySem.F.slot_list_index PySem.F.type_list_index (mt_indexD hu) h (fun F σ H G Γ α v r S c t => TLs.ty S c t) (fun F σ H G0 G Γ α v rr vs rs ee S c cs ⟨ds, s, x, j, es, hd, hx, f1, f2, ⟨z, hz, hzj⟩, hno, q⟩ => by
    subst es
    obtain ⟨u, eu, cu⟩ := cs.one
    subst eu
    have r1 := c.look S hd
    have r2 := cu.look S hx
    have d1 := r1.dp (D.fit_pl f1)
    have d2 := r2.dp (D.fit_pl f2)
    simp only [D.py] at d1
    obtain ⟨a, ws, ev, _, _⟩ := c.lst S hd
    subst ev
    have sh := D.fit_sh f1
    simp only [D.py] at sh
    refine ⟨a, u, x.py, D.pys ds, j, z.py, rfl, rfl, d1, d2, sh, D.fit_sh f2, ?_, hzj, fun m z' hm hz' => ?_, .trans ee (goal_int S q)⟩
    · rw [D.pys_map, List.getElem?_map, hz]; rfl
    · rw [D.pys_map, List.getElem?_map] at hz'
      cases q2 : ds[m]? with
      | none => rw [q2] at hz'; cases hz'
      | some w => rw [q2] at hz'; cases hz'; exact hno m w hm q2) hbase hfew hline hs hplain
/-- xs + ys, lists -/
theorem ve_cat (h : VE X pa a Γ fun r Γ1 => VE X pa b Γ1 fun s Γ2 => RCat Q r.fz s.fz Γ2) : VE X pa (.BinOp a .Add b pos) Γ Q :=
  ve_two (R := RCat Q) (pe_op op_cat pe_tw pe_tw) (fun F σ H G0 G Γ α v w r s ee S cv cw ⟨xs, ys, hx, hy, hz, q⟩ => by
    obtain ⟨p, vs, ev, hq, ra⟩ := cv.lst S hx
    obtain ⟨p', ws, ew, hq', ra'⟩ := cw.lst S hy
    subst ev; subst ew
    exact ⟨p, p', vs, ws, rfl, rfl, hq, hq', by rw [ra.length, ra'.length]; exact hz, fun l hl => .trans ee (goal_l S hl (ra.append ra') q)⟩) h
/-- xs * k, a list; a tuple, k from 2 on -/
def RRep (Q : Rs → Gm → Prop) : Rs → Rs → Gm → Prop := fun r s Γ => ∃ xs k, rd Γ r = some (.lst xs) ∧ s = .d (.int k) ∧ 0 ≤ k ∧ xs.length * k.toNat ≤ 100000 ∧ k ≤ 100000 ∧ Q (.n (.l (List.replicate k.toNat xs).flatten)) Γ
theorem ve_rep (h : VE X pa a Γ fun r Γ1 => VE X pa b Γ1 fun s Γ2 => RRep Q r.fz s.fz Γ2) : VE X pa (.BinOp a .Mult b pos) Γ Q :=
  ve_two (R := RRep Q) (pe_op op_rep pe_tw pe_tw) (fun F σ H G0 G Γ α v w r s ee S cv cw ⟨xs, k, hx, hy, h0, hz, hk, q⟩ => by
    subst hy
    obtain ⟨p, vs, ev, hq, ra⟩ := cv.lst S hx
    have ew := cw.intE
    subst ev; subst ew
    exact ⟨p, k, vs, rfl, rfl, hq, by omega, by omega, by rw [ra.length]; exact sz5 hz, fun l hl => .trans ee (goal_l S hl (ra.rep _) q)⟩) h
def RRepT (Q : Rs → Gm → Prop) : Rs → Rs → Gm → Prop := fun r s Γ => ∃ xs k, rd Γ r = some (.tup xs) ∧ s = .d (.int k) ∧ xs ≠ [] ∧ 2 ≤ k ∧ k ≤ 1000 ∧ xs.length ≤ 1000 ∧ Q (.d (.tup (List.replicate k.toNat xs).flatten)) Γ
theorem ve_repT (h : VE X pa a Γ fun r Γ1 => VE X pa b Γ1 fun s Γ2 => RRepT Q r.fz s.fz Γ2) : VE X pa (.BinOp a .Mult b pos) Γ Q :=
  ve_two (R := RRepT Q) (pe_op op_repT pe_tw pe_tw) (fun F σ H G0 G Γ α v w r s ee S cv cw ⟨xs, k, hx, hy, hn, h2, hk, hz, q⟩ => by
    subst hy
    obtain ⟨p, vs, ev, hq, ra⟩ := cv.tup S hx
    have ew := cw.intE
    subst ev; subst ew
    exact ⟨p, k, vs, rfl, rfl, SqT.of (S.ext _ _ hq), fun z => by subst z; cases ra; exact hn rfl, h2, hk, by rw [ra.length]; exact hz, fun l hl => .trans ee (goal_t S hl (ra.rep _) q)⟩) h
/-! ## stores into a list, a dict -/
def RSetL (P : Gm → Prop) : Rs → Rs → Rs → Gm → Prop := fun r s w Γ => ∃ i ds k j x, r = .s i ∧ s = .d (.int k) ∧ w = .d x ∧ Γ[i]? = some (some (.o (.l ds))) ∧ ixN ds.length k = some j ∧ P (Γ.set i (some (.o (.l (ds.set j x)))))
theorem vg_setL {r : Rs} {P : Gm → Prop} (h : VE X pa o Γ fun r1 Γ1 => VE X pa b Γ1 fun r2 Γ2 => RSetL P r1.fz r2.fz r.fz Γ2)
    (ha : ∀ v, assign (.Subscript o b pos) X.env v = (do
      let ov ← holding [v] (eval o X.env)
      let iv ← holding [v, ov] (eval b X.env)
      standAt pos
      holding [v, ov, iv] (setItem ov iv v)
      release [v, ov, iv] []) := by intro _; rfl) : VG X pa (.Subscript o b pos) r Γ P := fun F σ H G v S => by
  refine twG_of (pg_sub pe_tw pe_tw set_list ha) ?_
  obtain ⟨G0, e0, S0⟩ := S.fz
  have cx := S0.cv
  obtain ⟨α0, S0, _⟩ := S0
  refine (h F σ H G0 ⟨α0, S0⟩).mono fun u H1 ⟨G1, Γ1, r1, e1, S1, q⟩ => ?_
  obtain ⟨G2, e2, S2⟩ := S1.fz
  have cv := S2.cv
  obtain ⟨α, S3, _⟩ := S2
  refine (q F σ H1 G2 ⟨α, S3⟩).mono fun w H2 ⟨G3, Γ3, s, e3, S4, q3⟩ => ?_
  obtain ⟨G4, e4, S5⟩ := S4.fz
  have cw := S5.cv
  obtain ⟨α', S6, _⟩ := S5
  obtain ⟨i, ds, k, j, x, er, es, ex, hi, hj, p⟩ := q3
  have c1 := (cv.mono e3).mono e4
  have cx := (((cx.mono e1).mono e2).mono e3).mono e4
  rw [er] at c1
  rw [es] at cw
  rw [ex] at cx
  obtain ⟨vs, ev, hH, ra⟩ := S6.own c1 hi
  have ew := cw.intE
  subst ev; subst ew
  exact ⟨_, vs, k, j, rfl, rfl, hH, by rw [ra.length]; exact hj, G4, _, (((e0.trans e1).trans e2).trans e3).trans e4, ⟨α', S6.upd hi (rcl (ra.set cx.lay j))⟩, p⟩
def kD : D → Option Key
  | .int i => some (.inl i)
  | .str x => some (.inr x)
  | _ => none
theorem Re.key {K : PySem.W.Frag} {G : Hp} {v : V} {x : D} {k : Key} (h : Re K G v x) (e : kD x = some k) : v = kV k := by
  cases h <;> first | (cases e; rfl) | cases e
section
variable {κ : Type} [DecidableEq κ]
def dv (ds : List (κ × D)) (k : κ) : Option D := (ds.find? fun kv => decide (kv.1 = k)).map (·.2)
def dp (ds : List (κ × D)) (k : κ) (x : D) : List (κ × D) := if (ds.any fun kv => decide (kv.1 = k)) = true then ds.map (fun kv => if kv.1 = k then (kv.1, x) else kv) else ds ++ [(k, x)]
variable {K : PySem.W.Frag} {G : Hp} {k : κ}
theorem dv_re (k : κ) : ∀ {kvs : List (κ × V)} {ds : List (κ × D)}, kvs.map (·.1) = ds.map (·.1) → ReA K G (kvs.map (·.2)) (ds.map (·.2)) → (∀ x, dv ds k = some x → ∃ v, valV kvs k = some v ∧ Re K G v x) ∧ (dv ds k = none → valV kvs k = none)
  | [], [], _, _ => ⟨fun x h => by simp [dv] at h, fun _ => rfl⟩
  | [], _ :: _, e, _ => by simp at e
  | _ :: _, [], e, _ => by simp at e
  | (n, v) :: kvs, (m, d) :: ds, e, r => by
    simp only [List.map_cons, List.cons.injEq] at e
    obtain ⟨e1, e2⟩ := e
    have e1 : n = m := e1
    subst e1
    cases r with
    | cons r1 r2 =>
      obtain ⟨i1, i2⟩ := dv_re k e2 r2
      by_cases h : n = k
      · refine ⟨fun x hx => ?_, fun hx => ?_⟩
        · simp [dv, h] at hx; subst hx; exact ⟨v, by simp [valV, h], r1⟩
        · simp [dv, h] at hx
      · refine ⟨fun x hx => ?_, fun hx => ?_⟩
        · obtain ⟨w, q1, q2⟩ := i1 x (by simpa [dv, h] using hx)
          exact ⟨w, by simpa [valV, h] using q1, q2⟩
        · have := i2 (by simpa [dv, h] using hx)
          simpa [valV, h] using this
theorem any_keys {kvs : List (κ × V)} {ds : List (κ × D)} (e : kvs.map (·.1) = ds.map (·.1)) : (kvs.any fun kv => decide (kv.1 = k)) = (ds.any fun kv => decide (kv.1 = k)) := by
  have h1 : (kvs.any fun kv => decide (kv.1 = k)) = (kvs.map (·.1)).any (fun z => decide (z = k)) := by rw [List.any_map]; rfl
  have h2 : (ds.any fun kv => decide (kv.1 = k)) = (ds.map (·.1)).any (fun z => decide (z = k)) := by rw [List.any_map]; rfl
  rw [h1, h2, e]
theorem map_re {v : V} {x : D} (k : κ) (rv : Re K G v x) : ∀ {kvs : List (κ × V)} {ds : List (κ × D)}, kvs.map (·.1) = ds.map (·.1) → ReA K G (kvs.map (·.2)) (ds.map (·.2)) →
    (kvs.map (fun kv => if kv.1 = k then (kv.1, v) else kv)).map (·.1) = (ds.map (fun kv => if kv.1 = k then (kv.1, x) else kv)).map (·.1) ∧ ReA K G ((kvs.map (fun kv => if kv.1 = k then (kv.1, v) else kv)).map (·.2)) ((ds.map (fun kv => if kv.1 = k then (kv.1, x) else kv)).map (·.2))
  | [], [], _, _ => ⟨rfl, .nil⟩
  | [], _ :: _, e, _ => by simp at e
  | _ :: _, [], e, _ => by simp at e
  | (n, w) :: kvs, (m, d) :: ds, e, r => by
    simp only [List.map_cons, List.cons.injEq] at e
    obtain ⟨e1, e2⟩ := e
    have e1 : n = m := e1
    subst e1
    cases r with
    | cons r1 r2 =>
      obtain ⟨i1, i2⟩ := map_re k rv e2 r2
      by_cases h : n = k
      · simp only [List.map_cons, h, if_true]
        exact ⟨by rw [i1], .cons rv i2⟩
      · simp only [List.map_cons, h, if_false]
        exact ⟨by rw [i1], .cons r1 i2⟩
theorem dp_re {v : V} {x : D} (k : κ) (rv : Re K G v x) {kvs : List (κ × V)} {ds : List (κ × D)} (e : kvs.map (·.1) = ds.map (·.1)) (r : ReA K G (kvs.map (·.2)) (ds.map (·.2))) : (putK kvs k v).map (·.1) = (dp ds k x).map (·.1) ∧ ReA K G ((putK kvs k v).map (·.2)) ((dp ds k x).map (·.2)) := by
  unfold putK dp
  rw [any_keys e]
  split
  · exact map_re k rv e r
  · rw [List.map_append, List.map_append, List.map_append, List.map_append, e]
    exact ⟨rfl, r.append (.one rv)⟩
end
/-- d[k] = v, d a dict of ours -/
def RPutK (P : Gm → Prop) : Rs → Rs → Rs → Gm → Prop := fun w r s Γ => ∃ i ds y k x, r = .s i ∧ s = .d y ∧ kD y = some k ∧ w = .d x ∧ Γ[i]? = some (some (.o (.k ds))) ∧ ds.length ≤ 100000 ∧ P (Γ.set i (some (.o (.k (dp ds k x)))))
theorem vs_dput {pos' : Pos} (hu : X.A.units + 1 < cLine) (h : VE X pa e Γ fun w Γ0 => VE X pa o Γ0 fun r Γ1 => VE X pa b Γ1 fun s Γ2 => RPutK T.nx w.fz r.fz s.fz Γ2)
    (hs : swapsWith e (some (.Subscript o b pos')) pos.line X.env = pure false := by rfl) : VS X pa (.Assign [.Subscript o b pos'] e pos) Γ T := fun F σ H G S => by
  refine twS_of (ps_dput hu pe_tw pe_tw pe_tw hs) ?_
  refine (h F σ H G S).mono fun v H0 ⟨G0, Γ0, r0, e0, S0, h⟩ => ?_
  obtain ⟨G0', e0', S0⟩ := S0.fz
  have cx := S0.cv
  obtain ⟨α0, S0, _⟩ := S0
  refine (h F σ H0 G0' ⟨α0, S0⟩).mono fun u H1 ⟨G1, Γ1, r1, e1, S1, q⟩ => ?_
  obtain ⟨G2, e2, S2⟩ := S1.fz
  have cv := S2.cv
  obtain ⟨α, S3, _⟩ := S2
  refine (q F σ H1 G2 ⟨α, S3⟩).mono fun w H2 ⟨G3, Γ3, s, e3, S4, q3⟩ => ?_
  obtain ⟨G4, e4, S5⟩ := S4.fz
  have cw := S5.cv
  obtain ⟨α', S6, _⟩ := S5
  obtain ⟨i, ds, y, k, x, er, es, ek, ex, hi, hl, p⟩ := q3
  have c1 := (cv.mono e3).mono e4
  have cx := (((cx.mono e1).mono e2).mono e3).mono e4
  rw [er] at c1
  rw [es] at cw
  rw [ex] at cx
  obtain ⟨q1, g0, f0, ho, hH, kvs, rfl, hk, ra⟩ := S6.ow hi
  have c1' : σ[i]? = some (some u) := c1
  rw [c1'] at q1; cases q1
  have ew := cw.lay.key ek
  subst ew
  have el := congrArg List.length hk
  rw [List.length_map, List.length_map] at el
  refine ⟨_, _, rfl, DPut.k hH (by rw [el, sizeLine_eq]; omega), G4, _, ((((e0.trans e0').trans e1).trans e2).trans e3).trans e4, ⟨α', S6.upd hi (show RC X.K G4 (.dK (putK kvs k v)) (.k (dp ds k x)) from ⟨_, rfl, dp_re k cx.lay hk ra⟩)⟩, p⟩
theorem Cv.dct {K : PySem.W.Frag} {F : Hp} {σ : L2.St} {H G : Hp} {α : Nat → Addr} {v : V} {r : Rs} {ds : List (Key × D)} (h : Cv K σ G v r) (S : Sk K pa F σ H G Γ α) (e : rd Γ r = some (.dct ds)) : ∃ a kvs, v = .ref a ∧ H a = some (.dK kvs) ∧ kvs.map (·.1) = ds.map (·.1) ∧ ReA K G (kvs.map (·.2)) (ds.map (·.2)) := by
  cases r with
  | d y => cases e; cases h with | dct a b c => exact ⟨_, _, rfl, S.ext _ _ a, b, c⟩
  | n c => exact h.elim
  | s i =>
    obtain ⟨c, hc, ec⟩ := rd_slot e
    cases c with
    | k ds' =>
      cases ec
      obtain ⟨e2, _, _, ho, hp, rc⟩ := S.ow hc
      have h' : σ[i]? = some (some v) := h
      rw [h'] at e2; cases e2
      obtain ⟨vs, rfl, hk, ra⟩ := rc
      exact ⟨_, vs, rfl, hp, hk, ra⟩
    | l _ => cases ec
    | t _ => cases ec
    | i _ _ => cases ec
/-- d[k] -/
def RDg (Q : Rs → Gm → Prop) : Rs → Rs → Gm → Prop := fun r s Γ => ∃ ds y k x, rd Γ r = some (.dct ds) ∧ s = .d y ∧ kD y = some k ∧ dv ds k = some x ∧ Q (.d x) Γ
theorem ve_dget (hu : X.A.units + 1 < cLine) (h : VE X pa a Γ fun r Γ1 => VE X pa b Γ1 fun s Γ2 => RDg Q r.fz s.fz Γ2) (hs : NoSl b := by exact fun _ _ => rfl) : VE X pa (.Subscript a b pos) Γ Q := ve_of (pe_dget hu pe_tw pe_tw hs) fun F σ H G S => by
  refine (h F σ H G S).mono fun v H1 ⟨G1, Γ1, r, e1, S1, q⟩ => ?_
  obtain ⟨G2, e2, S2⟩ := S1.fz
  have cv := S2.cv
  obtain ⟨α, S3, _⟩ := S2
  refine (q F σ H1 G2 ⟨α, S3⟩).mono fun w H2 ⟨G3, Γ3, s, e3, S4, q3⟩ => ?_
  obtain ⟨G4, e4, S5⟩ := S4.fz
  have cw := S5.cv
  obtain ⟨α', S6, _⟩ := S5
  obtain ⟨ds, y, k, x, hd, es, ek, hx, q⟩ := q3
  rw [es] at cw
  have ew := cw.lay.key ek
  subst ew
  obtain ⟨p, kvs, ev, hH, hk, ra⟩ := ((cv.mono e3).mono e4).dct S6 hd
  subst ev
  obtain ⟨u, hu', ru⟩ := (dv_re k hk ra).1 x hx
  exact ⟨p, u, rfl, by rw [← hu']; exact DGet.k hH, Goal.trans (((e1.trans e2).trans e3).trans e4) (goal_d S6 ru q)⟩
/-- k in d, k not in d -/
def TDin (f : Bool → Bool) (Q : Bool → Gm → Prop) : Rs → Rs → Gm → Prop := fun s r Γ => ∃ ds y k, rd Γ r = some (.dct ds) ∧ s = .d y ∧ kD y = some k ∧ Q (f (dv ds k).isSome) Γ
theorem isSome_dv {K : PySem.W.Frag} {G : Hp} {k : Key} {kvs : List (Key × V)} {ds : List (Key × D)} (hk : kvs.map (·.1) = ds.map (·.1)) (ra : ReA K G (kvs.map (·.2)) (ds.map (·.2))) : (valV kvs k).isSome = (dv ds k).isSome := by
  obtain ⟨i1, i2⟩ := dv_re k hk ra
  cases q : dv ds k with
  | none => rw [i2 q]; rfl
  | some x => obtain ⟨v, hv, _⟩ := i1 x q; rw [hv]; rfl
theorem vt_din_core {t : TE} {f : Bool → Bool} {Q : Bool → Gm → Prop} (hp : PT X e (tB t)) (ht : ∀ σ H Q', tw X b σ H (fun y H1 => tw X a σ H1 fun x H2 => ∃ p o, x = .ref p ∧ DGet H2 p y o ∧ Q' (.bl (f o.isSome)) H2) → t σ H Q')
    (h : VE X pa b Γ fun s Γ1 => VE X pa a Γ1 fun r Γ2 => TDin f Q s.fz r.fz Γ2) : VT X pa e Γ Q := vt_of hp fun F σ H G S => ht _ _ _ (by
  refine (h F σ H G S).mono fun v H1 ⟨G1, Γ1, r, e1, S1, q⟩ => ?_
  obtain ⟨G2, e2, S2⟩ := S1.fz
  have cv := S2.cv
  obtain ⟨α, S3, _⟩ := S2
  refine (q F σ H1 G2 ⟨α, S3⟩).mono fun w H2 ⟨G3, Γ3, s, e3, S4, q3⟩ => ?_
  obtain ⟨G4, e4, S5⟩ := S4.fz
  have cw := S5.cv
  obtain ⟨α', S6, _⟩ := S5
  obtain ⟨ds, y, k, hd, es, ek, q⟩ := q3
  have cv := (cv.mono e3).mono e4
  rw [es] at cv
  have ew := cv.lay.key ek
  subst ew
  obtain ⟨p, kvs, ev, hH, hk, ra⟩ := cw.dct S6 hd
  subst ev
  exact ⟨p, _, rfl, DGet.k hH, _, by rw [isSome_dv hk ra], G4, Γ3, ((e1.trans e2).trans e3).trans e4, ⟨α', S6⟩, q⟩)
theorem vt_din {Q : Bool → Gm → Prop} (hu : X.A.units + 1 < cLine) (h : VE X pa b Γ fun s Γ1 => VE X pa a Γ1 fun r Γ2 => TDin id Q s.fz r.fz Γ2) (hm : behindInMarks .In a = false := by rfl) : VT X pa (.Compare b [.In] [a] pos) Γ Q :=
  vt_din_core (f := id) (pt_cmp (pc_din hu pe_tw pe_tw) hm) (fun _ _ _ q => q) h
theorem vt_dnin {Q : Bool → Gm → Prop} (hu : X.A.units + 1 < cLine) (h : VE X pa b Γ fun s Γ1 => VE X pa a Γ1 fun r Γ2 => TDin (!·) Q s.fz r.fz Γ2) (hm : behindInMarks .NotIn a = false := by rfl) : VT X pa (.Compare b [.NotIn] [a] pos) Γ Q :=
  vt_din_core (f := (!·)) (pt_cmp (pc_dnotin hu pe_tw pe_tw) hm) (fun _ _ _ q => q) h
/-- x += e -/
theorem vs_aug {i : Nat} {x : Str} {op : Operator} {g : Int → Int → Int} {pos' : Pos} (hN : X.N.Nodup) (hi : X.N[i]? = some x) (hx : Loc X.env.scope x) (hp : pa i = none) (ho : PIp X op (ipI g)) {m : Int} (hm : Γ[i]? = some (some (.d (.int m))))
    (h : VE X pa e Γ fun r Γ1 => ∃ n, r.fz = .d (.int n) ∧ T.nx (Γ1.set i (some (.d (.int (g m n)))))) (hf : X.fn x = true ∨ X.env.scope.names.lookup x = some .local := by first | exact .inl rfl | exact .inr rfl | assumption) :
    VS X pa (.AugAssign (.Name x pos') op e pos) Γ T := fun F σ H G S => by
  refine twS_of (ps_aug hN hi hx pe_tw ho hf) ?_
  obtain ⟨α, S'⟩ := id S
  obtain ⟨v, e1, rv⟩ := S'.sl i _ hm
  refine ⟨v, e1, (h F σ H G S).mono fun w H1 ⟨G1, Γ1, r, e2, S1, n, er, q⟩ => ?_⟩
  obtain ⟨G2, e3, S2⟩ := S1.fz
  have cw := S2.cv
  rw [er] at cw
  obtain ⟨α2, S3, _⟩ := S2
  exact ⟨m, n, Re.intE rv, cw.intE, G2, _, e2.trans e3, ⟨α2, S3.setD hp (.int _)⟩, q⟩
end
end AV
set_option Elab.async false
set_option linter.all false
set_option maxRecDepth 100000
set_option maxHeartbeats 4000000
namespace AV
open PySem PySem.Spec PyProof.Rows L2
section
variable {X : Cx} {pa : Pin} {e a b o : Expr} {es : List Expr} {Γ Γ' : Gm} {Q Q' : Rs → Gm → Prop} {T : En} {pos p1 p2 apos cpos : Pos}
/-! ## while -/
theorem vs_while {c : Expr} {body : List Stmt} (Iv : Nat → Gm → Prop) (m0 : Nat) (h0 : Iv m0 Γ)
    (hs : ∀ m Γ', Iv m Γ' → VT X pa c Γ' fun b Γ1 => (b = true → VB X pa body Γ1 { T with nx := fun Γ2 => ∃ m', m' < m ∧ Iv m' Γ2, ct := fun Γ2 => ∃ m', m' < m ∧ Iv m' Γ2, bk := T.nx }) ∧ (b = false → T.nx Γ1))
    (hp : PassesOwn (model X.prog X.w) X.A X.env X.xe := by exact PassesOwn.never) : VS X pa (.While c body [] pos) Γ T := fun F σ H G S => by
  refine twS_of (ps_while hp pt_tw pss_tw) ⟨fun m σ' H' => ∃ G' Γ', Ex G G' ∧ Sk0 X.K pa F σ' H' G' Γ' ∧ Iv m Γ', ⟨m0, G, Γ, Ex.refl G, S, h0⟩, ?_⟩
  rintro m σ' H' ⟨G', Γ', e', S', iv⟩
  refine (hs m Γ' iv F σ' H' G' S').mono fun b H1 ⟨G1, Γ1, e1, S1, q1, q2⟩ => ?_
  cases b with
  | true =>
    rw [if_pos rfl]
    refine ⟨fun σ2 H2 => ∃ m', m' < m ∧ ∃ G2 Γ2, Ex G G2 ∧ Sk0 X.K pa F σ2 H2 G2 Γ2 ∧ Iv m' Γ2, fun σ2 H2 ⟨m', hm, G2, Γ2, e2, S2, iv2⟩ => ⟨m', hm, G2, Γ2, e2, S2, iv2⟩, ?_⟩
    refine (q1 rfl F σ' H1 G1 S1).mono ?_ ?_ ?_ ?_
    · rintro σ2 H2 ⟨G2, Γ2, e2, S2, m', hm, iv2⟩
      exact ⟨m', hm, G2, Γ2, (e'.trans e1).trans e2, S2, iv2⟩
    · rintro v H2 ⟨σ2, G2, Γ2, r, e2, S2, q⟩
      exact ⟨σ2, G2, Γ2, r, (e'.trans e1).trans e2, S2, q⟩
    · rintro σ2 H2 ⟨G2, Γ2, e2, S2, q⟩
      exact ⟨G2, Γ2, (e'.trans e1).trans e2, S2, q⟩
    · rintro σ2 H2 ⟨G2, Γ2, e2, S2, m', hm, iv2⟩
      exact ⟨m', hm, G2, Γ2, (e'.trans e1).trans e2, S2, iv2⟩
  | false =>
    rw [if_neg Bool.false_ne_true]
    exact ⟨G1, Γ1, e'.trans e1, S1, q2 rfl⟩
/-! ## what is walked -/
/-- x is told as d, on the spot or as a tuple that was just made -/
def Yl (K : PySem.W.Frag) (G : Hp) (H : Hp) (x : V) (H' : Hp) (d : D) : Prop :=
  (H' = H ∧ Re K G x d) ∨ ∃ t vs ds, x = .ref t ∧ H t = none ∧ H' = upd H t (.tup vs) ∧ d = .tup ds ∧ ReA K G vs ds
/-- J walks xs while G stands -/
def Wk (K : PySem.W.Frag) (J : L2.It) (G : Hp) (xs : List D) : Prop := ∀ (i : Nat) (H : Hp), Ex G H → (i < xs.length → J.go i H) ∧ (xs.length ≤ i → J.stop i H) ∧ ∀ x H', i < xs.length → J.yld i H x H' → ∃ d, xs[i]? = some d ∧ Yl K G H x H' d
def VI (X : Cx) (pa : Pin) (tg iter : Expr) (Γ : Gm) (Q : List D → Gm → Prop) : Prop :=
  ∃ wi : TI, PI X tg iter wi ∧ ∀ (F : Hp) (σ : L2.St) (H G : Hp), Sk0 X.K pa F σ H G Γ → ∀ R : L2.It → Hp → Prop, (∀ J H1 G1 Γ1 xs, Ex G G1 → Sk0 X.K pa F σ H1 G1 Γ1 → Q xs Γ1 → Wk X.K J G1 xs → R J H1) → wi σ H R
/-- over a list, a tuple that stands -/
def QSeq (Q : List D → Gm → Prop) : Rs → Gm → Prop := fun r Γ => ∃ x ds, r = .d x ∧ (x = .lst ds) ∧ Q ds Γ
def QTup (Q : List D → Gm → Prop) : Rs → Gm → Prop := fun r Γ => ∃ x ds, r = .d x ∧ (x = .tup ds ∨ x = .ktp ds) ∧ Q ds Γ
theorem wk_list {K : PySem.W.Frag} {G : Hp} {a : Addr} {vs : List V} {ds : List D} (h : G a = some (.lst vs)) (r : ReA K G vs ds) : Wk K (Itl K a) G ds := fun i H e => by
  have hq : SqL K H a vs := SqL.of (e _ _ h)
  refine ⟨fun hi => ?_, fun hi => ⟨vs, hq, by rw [r.length]; exact hi⟩, fun x H' hi ⟨e1, y⟩ => ?_⟩
  · obtain ⟨v, hv, _⟩ := r.get (List.getElem?_eq_getElem hi)
    exact ⟨vs, v, hq, hv⟩
  · have hv := y vs hq
    obtain ⟨d, hd, rd⟩ := r.getV hv
    exact ⟨d, hd, .inl ⟨e1, rd⟩⟩
theorem wk_tup {K : PySem.W.Frag} {G : Hp} {a : Addr} {vs : List V} {ds : List D} (h : ∀ H, Ex G H → SqT K H a vs) (r : ReA K G vs ds) : Wk K (Itt K a) G ds := fun i H e => by
  have hq := h H e
  refine ⟨fun hi => ?_, fun hi => ⟨vs, hq, by rw [r.length]; exact hi⟩, fun x H' hi ⟨e1, y⟩ => ?_⟩
  · obtain ⟨v, hv, _⟩ := r.get (List.getElem?_eq_getElem hi)
    exact ⟨vs, v, hq, hv⟩
  · have hv := y vs hq
    obtain ⟨d, hd, rd⟩ := r.getV hv
    exact ⟨d, hd, .inl ⟨e1, rd⟩⟩
theorem vi_list {tg : Expr} {Q : List D → Gm → Prop} (h : VE X pa e Γ fun r Γ1 => QSeq Q r.fz Γ1) : VI X pa tg e Γ Q := ⟨_, pi_list pe_tw, fun F σ H G S R k => by
  refine (h F σ H G S).mono fun v H1 ⟨G1, Γ1, r, e1, S1, x, ds, er, ex, q⟩ => ?_
  obtain ⟨G2, e2, S2⟩ := S1.fz
  have cv := S2.cv
  rw [er, ex] at cv
  obtain ⟨α, S3, _⟩ := S2
  have h1 : Re X.K G2 v (.lst ds) := cv
  cases h1 with
  | lst ha hr => exact ⟨_, rfl, ⟨_, SqL.of (S3.ext _ _ ha)⟩, k _ H1 G2 Γ1 ds (e1.trans e2) ⟨α, S3⟩ q (wk_list ha hr)⟩⟩
theorem vi_tup {tg : Expr} {Q : List D → Gm → Prop} (h : VE X pa e Γ fun r Γ1 => QTup Q r.fz Γ1) : VI X pa tg e Γ Q := ⟨_, pi_tup pe_tw, fun F σ H G S R k => by
  refine (h F σ H G S).mono fun v H1 ⟨G1, Γ1, r, e1, S1, x, ds, er, ex, q⟩ => ?_
  obtain ⟨G2, e2, S2⟩ := S1.fz
  have cv := S2.cv
  rw [er] at cv
  obtain ⟨α, S3, _⟩ := S2
  have h1 : Re X.K G2 v x := cv
  rcases ex with ex | ex
  · subst ex
    cases h1 with
    | tup ha hr => exact ⟨_, rfl, ⟨_, SqT.of (S3.ext _ _ ha)⟩, k _ H1 G2 Γ1 ds (e1.trans e2) ⟨α, S3⟩ q (wk_tup (fun H e => SqT.of (e _ _ ha)) hr)⟩
  · subst ex
    cases h1 with
    | ktp ha hr => exact ⟨_, rfl, ⟨_, S3.ext.sqt ha⟩, k _ H1 G2 Γ1 ds (e1.trans e2) ⟨α, S3⟩ q (wk_tup (fun H e => e.sqt ha) hr)⟩⟩
/-- range(n), range(a, b) -/
def rg2 (a b : Int) : List D := (List.range (b - a).toNat).map fun (i : Nat) => D.int (a + i)
theorem wk_range {K : PySem.W.Frag} {G : Hp} (lo : Int) (n : Nat) (ds : List D) (h : ds = (List.range n).map fun (i : Nat) => D.int (lo + i)) : Wk K (Itr lo n) G ds := fun i H e => by
  have hl : ds.length = n := by rw [h]; simp
  refine ⟨fun hi => by rw [hl] at hi; exact hi, fun hi => by rw [hl] at hi; exact hi, fun x H' hi ⟨e1, y⟩ => ?_⟩
  subst y
  rw [hl] at hi
  exact ⟨.int (lo + i), by rw [h, List.getElem?_map, List.getElem?_range hi]; rfl, .inl ⟨e1, .int _⟩⟩
def QRg1 (Q : List D → Gm → Prop) : Rs → Gm → Prop := fun r Γ => ∃ n : Int, r = .d (.int n) ∧ -(2 ^ 62) ≤ n ∧ n < 2 ^ 62 ∧ Q (rgD n) Γ
theorem vi_rg1 {tg : Expr} {p : Pos} {Q : List D → Gm → Prop} (hg : Gl X "range") (hm : X.mg "range" = none) (h : VE X pa a Γ fun r Γ1 => QRg1 Q r.fz Γ1) (hs : starEach [a] X.env = [(false, eval a X.env)] := by rfl) : VI X pa tg (.Call (.Name "range" p) [a] [] pos) Γ Q := ⟨_, pi_range1 hg hm pa_tw hs, fun F σ H G S R k => by
  refine (va_cons (Q := fun rs Γ1 => ∃ r, rs = [r] ∧ QRg1 Q r Γ1) (h.mono fun r Γ1 q => va_nil ⟨_, rfl, q⟩) hs F σ H G S).mono fun vs H1 ⟨G1, Γ1, rs, e1, ⟨α, S1⟩, cv, r, er, n, en, h1, h2, q⟩ => ?_
  subst er; subst en
  obtain ⟨v, rfl, c⟩ := cv.one
  rw [c.intE]
  refine ⟨n, rfl, h1, h2, k _ H1 G1 Γ1 _ e1 ⟨α, S1⟩ q (wk_range 0 n.toNat _ ?_)⟩
  unfold rgD
  simp⟩
def QRg2 (Q : List D → Gm → Prop) : Rs → Rs → Gm → Prop := fun r s Γ => ∃ m n : Int, r = .d (.int m) ∧ s = .d (.int n) ∧ -(2 ^ 62) ≤ m ∧ m < 2 ^ 62 ∧ -(2 ^ 62) ≤ n ∧ n < 2 ^ 62 ∧ Q (rg2 m n) Γ
theorem vi_rg2 {tg : Expr} {p : Pos} {Q : List D → Gm → Prop} (hg : Gl X "range") (hm : X.mg "range" = none) (h : VE X pa a Γ fun r Γ1 => VE X pa b Γ1 fun s Γ2 => QRg2 Q r.fz s.fz Γ2) (hs : starEach [a, b] X.env = [(false, eval a X.env), (false, eval b X.env)] := by rfl) (hs2 : starEach [b] X.env = [(false, eval b X.env)] := by rfl) :
    VI X pa tg (.Call (.Name "range" p) [a, b] [] pos) Γ Q := ⟨_, pi_range2 hg hm pa_tw hs hs2, fun F σ H G S R k => by
  refine (va_cons (Q := fun rs Γ1 => ∃ r s, rs = [r, s] ∧ QRg2 Q r s Γ1) (h.mono fun r Γ1 h1 => va_cons (h1.mono fun s Γ2 q => va_nil ⟨_, _, rfl, q⟩) hs2) (by rw [hs, hs2]) F σ H G S).mono fun vs H1 ⟨G1, Γ1, rs, e1, ⟨α, S1⟩, cv, r, s, er, m, n, em, en, h1, h2, h3, h4, q⟩ => ?_
  subst er; subst em; subst en
  obtain ⟨v, w, rfl, c, c2⟩ := cv.two
  rw [c.intE, c2.intE]
  exact ⟨m, n, rfl, ⟨h1, h2, h3, h4⟩, k _ H1 G1 Γ1 _ e1 ⟨α, S1⟩ q (wk_range m (n - m).toNat _ rfl)⟩⟩
/-- enumerate(xs), xs a list -/
def enD (ds : List D) : List D := ds.mapIdx fun i d => .tup [.int (i : Nat), d]
theorem wk_enum {K : PySem.W.Frag} {G : Hp} {a : Addr} {vs : List V} {ds : List D} (h : G a = some (.lst vs)) (r : ReA K G vs ds) : Wk K (Ite K a) G (enD ds) := fun i H e => by
  have hq : SqL K H a vs := SqL.of (e _ _ h)
  have hl : (enD ds).length = ds.length := by unfold enD; simp
  have w := walk_enum (K := K) (a := a) (xs := vs)
  have hl2 := r.length
  refine ⟨fun hi => ?_, fun hi => ?_, fun x H' hi y => ?_⟩
  · rw [hl] at hi; exact w.goes i H (by omega) hq
  · rw [hl] at hi; exact ⟨vs, hq, by omega⟩
  · rw [hl] at hi
    obtain ⟨t, x1, x2, ex, nt, eh, f1, f2⟩ := w.yields i H x H' (by omega) hq y
    cases f1
    obtain ⟨d, hd, rd⟩ := r.getV f2
    refine ⟨.tup [.int (i : Nat), d], ?_, .inr ⟨t, _, _, ex, nt, eh, rfl, .cons (.int _) (.one rd)⟩⟩
    unfold enD
    rw [List.getElem?_mapIdx, hd]; rfl
theorem vi_enum {p tpos : Pos} {elts : List Expr} {kk : Nat} {Q : List D → Gm → Prop} (hg : Gl X "enumerate") (hm : X.mg "enumerate" = none) (h : VE X pa e Γ fun r Γ1 => QSeq (fun ds => Q (enD ds)) r.fz Γ1) (hs : starEach [e] X.env = [(false, eval e X.env)] := by rfl) :
    VI X pa (.Tuple elts kk tpos) (.Call (.Name "enumerate" p) [e] [] pos) Γ Q := ⟨_, pi_enum hg hm pa_tw hs, fun F σ H G S R k => by
  refine (va_cons (Q := fun rs Γ1 => ∃ r, rs = [r] ∧ QSeq (fun ds => Q (enD ds)) r Γ1) (h.mono fun r Γ1 q => va_nil ⟨_, rfl, q⟩) hs F σ H G S).mono fun vs H1 ⟨G1, Γ1, rs, e1, ⟨α, S1⟩, cv, r, er, x, ds, exr, ex, q⟩ => ?_
  subst er; subst exr; subst ex
  obtain ⟨v, rfl, c⟩ := cv.one
  have h1 : Re X.K G1 v (.lst ds) := c
  cases h1 with
  | lst ha hr => exact ⟨_, _, rfl, SqL.of (S1.ext _ _ ha), k _ H1 G1 Γ1 _ e1 ⟨α, S1⟩ q (wk_enum ha hr)⟩⟩
/-! ## targets of a loop -/
structure TgOk (X : Cx) (tg : Expr) (g : TG) (vs : List Nat) (put : D → Gm → Gm → Prop) : Prop where
  run : ∀ (pa : Pin) (F : Hp) (σ : L2.St) (H G : Hp) (Γ Γ' : Gm) (α : Nat → Addr) (v : V) (d : D), Sk X.K pa F σ H G Γ α → Re X.K G v d → (∀ i ∈ vs, pa i = none) → put d Γ Γ' →
    ∀ R : L2.St → Hp → Prop, (∀ σ2, wipe σ2 vs = wipe σ vs → Sk X.K pa F σ2 H G Γ' α → R σ2 H) → g v σ H R
def putN (i : Nat) : D → Gm → Gm → Prop := fun d Γ Γ' => Γ' = Γ.set i (some (.d d))
def putP (i j : Nat) : D → Gm → Gm → Prop := fun d Γ Γ' => ∃ x y, d = .tup [x, y] ∧ Γ' = (Γ.set i (some (.d x))).set j (some (.d y))
theorem tg_name {i : Nat} : TgOk X a (gName i) [i] (putN i) := ⟨fun pa F σ H G Γ Γ' α v d S r hp q R k => by
  cases q
  refine k _ ?_ (S.setD (hp i (by simp)) r)
  show (σ.set i (some v)).set i none = σ.set i none
  rw [List.set_set]⟩
theorem tg_pair {i j : Nat} (hij : i ≠ j) : TgOk X a (gTup X.K 2 (gCons (gName i) (gCons (gName j) gNil))) [i, j] (putP i j) := ⟨fun pa F σ H G Γ Γ' α v d S r hp q R k => by
  obtain ⟨x, y, rfl, rfl⟩ := q
  cases r with
  | tup ha hr =>
    cases hr with
    | cons r1 t =>
      cases t with
      | cons r2 t =>
        cases t
        refine ⟨_, _, rfl, SqT.of (S.ext _ _ ha), rfl, _, _, rfl, _, _, rfl, rfl, k _ ?_ ((S.setD (hp i (by simp)) r1).setD (hp j (by simp)) r2)⟩
        show (((σ.set i _).set j _).set j none).set i none = (σ.set j none).set i none
        rw [List.set_set, List.set_comm _ _ (Ne.symm hij), List.set_comm none none (Ne.symm hij), List.set_set, List.set_comm _ _ hij]⟩
/-- a target names pg and its slots -/
structure TgFor (X : Cx) (tg : Expr) (vs : List Nat) (put : D → Gm → Gm → Prop) : Prop where
  ex : ∃ g, PG X tg g ∧ TgOk X tg g vs put
theorem tf_name {i : Nat} {x : Str} (hN : X.N.Nodup) (hi : X.N[i]? = some x) (hx : Loc X.env.scope x) (hf : X.fn x = true ∨ X.env.scope.names.lookup x = some .local := by first | exact .inl rfl | exact .inr rfl | assumption) : TgFor X (.Name x pos) [i] (putN i) :=
  ⟨_, pg_name hN hi hx hf, tg_name⟩
theorem tf_pair {i j : Nat} {x y : Str} {px py : Pos} {kk : Nat} (hc : X.calm = true) (hN : X.N.Nodup) (hij : i ≠ j) (hi : X.N[i]? = some x) (hx : Loc X.env.scope x) (hj : X.N[j]? = some y) (hy : Loc X.env.scope y)
    (hf : X.fn x = true ∨ X.env.scope.names.lookup x = some .local := by first | exact .inl rfl | exact .inr rfl | assumption) (hf2 : X.fn y = true ∨ X.env.scope.names.lookup y = some .local := by first | exact .inl rfl | exact .inr rfl | assumption) :
    TgFor X (.Tuple [.Name x px, .Name y py] kk pos) [i, j] (putP i j) :=
  ⟨_, pg_tup (n := 2) hc (pgs_cons (pg_name hN hi hx hf) (pgs_cons (pg_name hN hj hy hf2) pgs_nil)), tg_pair hij⟩
/-! ## for -/
/-- a yielded value, as data over what stays -/
theorem Yl.got {K : PySem.W.Frag} {F : Hp} {σ : L2.St} {H H' G : Hp} {Γ : Gm} {α : Nat → Addr} {x : V} {d : D} (S : Sk K pa F σ H G Γ α) (y : Yl K G H x H' d) : ∃ G', Ex G G' ∧ Sk K pa F σ H' G' Γ α ∧ Re K G' x d := by
  rcases y with ⟨rfl, r⟩ | ⟨t, vs, ds, rfl, hn, rfl, rfl, r⟩
  · exact ⟨G, Ex.refl G, S, r⟩
  · have g0 := S.ext.back hn
    have e : Ex G (upd G t (.tup vs)) := Ex.new g0
    have f0 : F t = none := by
      cases q : F t with
      | none => rfl
      | some o => obtain ⟨u, hu⟩ := (S.fr t o q).1.some; rw [hu] at hn; cases hn
    refine ⟨_, e, ⟨?_, ?_, S.len, ?_, S.inj, S.pin, S.tab⟩, .tup upd_same (r.mono e)⟩
    · intro a o q
      by_cases ha : a = t
      · subst ha; rw [upd_same] at q ⊢; exact q
      · rw [upd_ne ha] at q ⊢; exact S.ext a o q
    · intro a o q
      obtain ⟨h1, h2⟩ := S.fr a o q
      have na : a ≠ t := fun z => by subst z; rw [f0] at q; cases q
      exact ⟨h1.mono e fun u hu => by rw [upd_ne na]; exact hu, by rw [upd_ne na]; exact h2⟩
    · intro i it hi
      cases it with
      | d z => obtain ⟨w, e1, e2⟩ := S.sl i _ hi; exact ⟨w, e1, e2.mono e⟩
      | o c' =>
        obtain ⟨e1, e2, e3, ho', e4, e5⟩ := S.sl i _ hi
        have na : α i ≠ t := fun z => by rw [z, hn] at e4; cases e4
        exact ⟨e1, by rw [upd_ne na]; exact e2, e3, ho', by rw [upd_ne na]; exact e4, e5.mono e⟩
theorem vs_for {tg iter : Expr} {body : List Stmt} {vs : List Nat} {put : D → Gm → Gm → Prop} (ht : TgFor X tg vs put) (hv : ∀ i ∈ vs, pa i = none) (hi : VI X pa tg iter Γ fun xs Γ1 => ∃ Iv : Nat → Gm → Prop, Iv 0 Γ1 ∧
      (∀ i x Γ', xs[i]? = some x → Iv i Γ' → ∃ Γ2, put x Γ' Γ2 ∧ VB X pa body Γ2 { T with nx := Iv (i + 1), ct := Iv (i + 1), bk := T.nx }) ∧ ∀ Γ', Iv xs.length Γ' → T.nx Γ')
    (hc : X.calm = true) (hp : PassesOwn (model X.prog X.w) X.A X.env X.xe := by exact PassesOwn.never) (hs : ∀ x, foldedSetIterable iter X.env x = pure x := by intro _; rfl) : VS X pa (.For tg iter body [] pos) Γ T := fun F σ H G S => by
  obtain ⟨wi, pi, hi⟩ := hi
  obtain ⟨g, pg, tok⟩ := ht.ex
  refine twS_of (ps_for hp hc pi pg pss_tw hs) (hi F σ H G S _ fun J H1 G1 Γ1 xs e1 S1 ⟨Iv, i0, step, fin⟩ wk => ?_)
  refine ⟨fun i m σ' H' => m = xs.length - i ∧ i ≤ xs.length ∧ ∃ G' Γ', Ex G1 G' ∧ Sk0 X.K pa F σ' H' G' Γ' ∧ Iv i Γ', ⟨xs.length, by simp, Nat.zero_le _, G1, Γ1, Ex.refl G1, S1, i0⟩, ?_⟩
  rintro i m σ' H' ⟨rfl, hle, G', Γ', e', ⟨α, S'⟩, iv⟩
  obtain ⟨w1, w2, w3⟩ := wk i H' (e'.trans S'.ext)
  by_cases hlt : i < xs.length
  · refine .inr ⟨w1 hlt, fun σ2 H2 => i + 1 ≤ xs.length ∧ ∃ G2 Γ2, Ex G1 G2 ∧ Sk0 X.K pa F σ2 H2 G2 Γ2 ∧ Iv (i + 1) Γ2, fun σ2 H2 q => ⟨xs.length - (i + 1), by omega, rfl, q⟩, fun x H2 y => ?_⟩
    obtain ⟨d, hd, yl⟩ := w3 x H2 hlt y
    have yl' : Yl X.K G' H' x H2 d := by
      rcases yl with ⟨e, r⟩ | ⟨t, vs, ds, q1, q2, q3, q4, r⟩
      · exact .inl ⟨e, r.mono e'⟩
      · exact .inr ⟨t, vs, ds, q1, q2, q3, q4, r.mono e'⟩
    obtain ⟨G2, e2, S2, r2⟩ := yl'.got S'
    obtain ⟨Γ2, hp2, hb⟩ := step i d Γ' hd iv
    refine tok.run pa F σ' H2 G2 Γ' Γ2 α x d S2 r2 hv hp2 _ fun σ3 _ S3 => ?_
    refine (hb F σ3 _ G2 ⟨α, S3⟩).mono ?_ ?_ ?_ ?_
    · rintro σ4 H4 ⟨G4, Γ4, e4, S4, q4⟩
      exact ⟨hlt, G4, Γ4, (e'.trans e2).trans e4, S4, q4⟩
    · rintro v H4 ⟨σ4, G4, Γ4, r, e4, S4, q4⟩
      exact ⟨σ4, G4, Γ4, r, ((e1.trans e').trans e2).trans e4, S4, q4⟩
    · rintro σ4 H4 ⟨G4, Γ4, e4, S4, q4⟩
      exact ⟨G4, Γ4, ((e1.trans e').trans e2).trans e4, S4, q4⟩
    · rintro σ4 H4 ⟨G4, Γ4, e4, S4, q4⟩
      exact ⟨hlt, G4, Γ4, (e'.trans e2).trans e4, S4, q4⟩
  · have e : i = xs.length := by omega
    subst e
    exact .inl ⟨w2 (Nat.le_refl _), G', Γ', e1.trans e', ⟨α, S'⟩, fin Γ' iv⟩
end
end AV
set_option Elab.async false
set_option linter.all false
set_option maxRecDepth 100000
set_option maxHeartbeats 4000000
namespace AV
open PySem PySem.Spec PyProof.Rows L2
/-! ## list comprehensions -/
def wipeG (Γ : Gm) : List Nat → Gm
  | [] => Γ
  | v :: vs => (wipeG Γ vs).set v none
section
variable {K : PySem.W.Frag} {pa : Pin} {F : Hp} {σ : L2.St} {H H' G G' : Hp} {Γ Γ' : Gm} {α : Nat → Addr}
theorem Sk.forgetS {i : Nat} (S : Sk K pa F σ H G Γ α) (hp : pa i = none) : Sk K pa F (σ.set i none) H G (Γ.set i none) α where
  ext := S.ext
  fr := S.fr
  tab := S.tab
  len := by simpa using S.len
  sl := fun j it hj => by
    rcases set_of hj with ⟨_, _, e⟩ | ⟨ne, hj⟩
    · cases e
    · have q := S.sl j it hj
      cases it with
      | d z => obtain ⟨w, e1, e2⟩ := q; exact ⟨w, by rw [List.getElem?_set_ne ne]; exact e1, e2⟩
      | o c => obtain ⟨e1, e2⟩ := q; exact ⟨by rw [List.getElem?_set_ne ne]; exact e1, e2⟩
  inj := (S.forget hp).inj
  pin := (S.forget hp).pin
theorem Sk.wipe (S : Sk K pa F σ H G Γ α) : ∀ {vs : List Nat}, (∀ i ∈ vs, pa i = none) → Sk K pa F (wipe σ vs) H G (wipeG Γ vs) α
  | [], _ => S
  | v :: vs, h => (Sk.wipe S fun i hi => h i (List.mem_cons_of_mem _ hi)).forgetS (h v List.mem_cons_self)
theorem Sk.unwipe {vs : List Nat} (S : Sk K pa F (L2.wipe σ vs) H G Γ α) : Sk K pa F σ H G Γ α where
  ext := S.ext
  fr := S.fr
  tab := S.tab
  len := by rw [← S.len, wipe_length]
  sl := fun j it hj => by
    have q := S.sl j it hj
    cases it with
    | d z => obtain ⟨w, e1, e2⟩ := q; exact ⟨w, (wipe_some e1).1, e2⟩
    | o c => obtain ⟨e1, e2⟩ := q; exact ⟨(wipe_some e1).1, e2⟩
  inj := S.inj
  pin := S.pin
/-- an object of no slot, kept in the frame -/
theorem Sk.frame {D : Addr} {o : HO} (S : Sk K pa F σ H G Γ α) (hD : H D = none) (n : ∀ ps, o ≠ .tbl ps := by intro _ z; cases z) : Sk K pa (L2.upd F D o) σ (L2.upd H D o) G Γ α := by
  have S' := S.grow (Ex.new (o := o) hD)
  exact { S' with
    tab := fun p hp => by
      obtain ⟨t, ht⟩ := S.tab p hp
      have ne : p.1 ≠ D := fun z => by
        obtain ⟨u, hu⟩ := (S.fr _ _ ht).1.some
        rw [z, hD] at hu; cases hu
      exact ⟨t, by rw [upd_ne ne]; exact ht⟩
    fr := fun a u h => by
      by_cases ha : a = D
      · subst ha; rw [upd_same] at h; cases h; exact ⟨FrH.of upd_same n, S.ext.back hD⟩
      · rw [upd_ne ha] at h; exact ⟨(S.fr a u h).1.mono (Ex.refl _) fun u' q => by rw [upd_ne ha]; exact q, (S.fr a u h).2⟩
    sl := fun i it hi => by
      have q := S'.sl i it hi
      cases it with
      | d z => exact q
      | o c =>
        obtain ⟨e1, e2, e3, ho, e4, e5⟩ := q
        obtain ⟨_, _, _, ho', e4', _⟩ := S.ow hi
        have ne : α i ≠ D := fun z => by rw [z, hD] at e4'; cases e4'
        exact ⟨e1, e2, by rw [upd_ne ne]; exact e3, ho, e4, e5⟩ }
/-- it changes -/
theorem Sk.reframe {D : Addr} {o o' : HO} (S : Sk K pa (L2.upd F D o) σ H G Γ α) (n : ∀ ps, o' ≠ .tbl ps := by intro _ z; cases z) (n0 : ∀ ps, o ≠ .tbl ps := by intro _ z; cases z) : Sk K pa (L2.upd F D o') σ (L2.upd H D o') G Γ α := by
  obtain ⟨hD, gD⟩ := S.fr D o upd_same
  have ne : ∀ {i c}, Γ[i]? = some (some (.o c)) → α i ≠ D := fun {i c} hi z => by
    obtain ⟨_, _, f0, _⟩ := S.ow hi
    rw [z, upd_same] at f0; cases f0
  refine ⟨fun a u h => ?_, fun a u h => ?_, S.len, fun i it hi => ?_, S.inj, S.pin, fun p hp => by
    obtain ⟨t, ht⟩ := S.tab p hp
    have ne : p.1 ≠ D := fun z => by rw [z, upd_same] at ht; exact n0 _ (Option.some.inj ht)
    rw [upd_ne ne] at ht ⊢; exact ⟨t, ht⟩⟩
  · have na : a ≠ D := fun z => by rw [z, gD] at h; cases h
    rw [upd_ne na]; exact S.ext a u h
  · by_cases ha : a = D
    · subst ha; rw [upd_same] at h; cases h; exact ⟨FrH.of upd_same n, gD⟩
    · rw [upd_ne ha] at h
      have q := S.fr a u (by rw [upd_ne ha]; exact h)
      exact ⟨q.1.mono (Ex.refl _) fun u' z => by rw [upd_ne ha]; exact z, q.2⟩
  · have q := S.sl i it hi
    cases it with
    | d z => exact q
    | o c =>
      obtain ⟨e1, e2, e3, ho, e4, e5⟩ := q
      have n' := ne hi
      rw [upd_ne n'] at e3
      exact ⟨e1, e2, by rw [upd_ne n']; exact e3, ho, by rw [upd_ne n']; exact e4, e5⟩
/-- it is a result -/
theorem Sk.unframe {D : Addr} {o : HO} {c : C} (S : Sk K pa (L2.upd F D o) σ H G Γ α) (f0 : F D = none) (rc : RC K G o c) : StR K pa F σ H G Γ (.ref D) (.n c) := by
  obtain ⟨hD, gD⟩ := S.fr D o upd_same
  have ne : ∀ {i c}, Γ[i]? = some (some (.o c)) → α i ≠ D := fun {i c} hi z => by
    obtain ⟨_, _, f0, _⟩ := S.ow hi
    rw [z, upd_same] at f0; cases f0
  refine ⟨α, ⟨S.ext, fun a u h => ?_, S.len, fun i it hi => ?_, S.inj, S.pin, fun p hp => by
    obtain ⟨t, ht⟩ := S.tab p hp
    have ne : p.1 ≠ D := fun z => by rw [z, upd_same] at ht; exact rc.ntbl _ (Option.some.inj ht)
    rw [upd_ne ne] at ht; exact ⟨t, ht⟩⟩, D, o, rfl, gD, f0, fun i c hc => ne hc, hD.eqn rc.ntbl, rc⟩
  · have na : a ≠ D := fun z => by rw [z, f0] at h; cases h
    exact S.fr a u (by rw [upd_ne na]; exact h)
  · have q := S.sl i it hi
    cases it with
    | d z => exact q
    | o c' =>
      obtain ⟨e1, e2, e3, ho, e4, e5⟩ := q
      rw [upd_ne (ne hi)] at e3
      exact ⟨e1, e2, e3, ho, e4, e5⟩
end
def twTs (X : Cx) (ifs : List Expr) : TT := fun σ H Q => ∀ (pins : List (Addr × Obj)) (s : Shared), Inv X pins σ H s →
  wpAny (model X.prog X.w) X.A (forIn ifs true fun c r => if r = true then do let ok ← isTrue c X.env (eval c X.env); pure (ForInStep.yield ok) else pure (ForInStep.yield r)) (TP X pins σ Q) X.xe s
theorem twTs_of {X : Cx} {e : List Expr} {t : TT} (h : PTs X e t) {σ : L2.St} {H : Hp} {Q : Bool → Hp → Prop} (q : t σ H Q) : twTs X e σ H Q := fun pins s I => h.run pins s σ H Q I q
theorem twTs.mono {X : Cx} {e : List Expr} {σ : L2.St} {H : Hp} {Q Q' : Bool → Hp → Prop} (h : twTs X e σ H Q) (f : ∀ v H', Q v H' → Q' v H') : twTs X e σ H Q' := fun pins s I => thn (h pins s I) fun u s' ⟨H', I', q⟩ => ⟨H', I', f _ _ q⟩
def VTs (X : Cx) (pa : Pin) (ifs : List Expr) (Γ : Gm) (Q : Bool → Gm → Prop) : Prop :=
  ∀ (F : Hp) (σ : L2.St) (H G : Hp), Sk0 X.K pa F σ H G Γ → twTs X ifs σ H fun b H' => ∃ G' Γ', Ex G G' ∧ Sk0 X.K pa F σ H' G' Γ' ∧ Q b Γ'
theorem vts_nil {X : Cx} {pa : Pin} {Γ : Gm} {Q : Bool → Gm → Prop} (q : Q true Γ) : VTs X pa [] Γ Q := fun F σ H G S => twTs_of pts_nil ⟨G, Γ, Ex.refl G, S, q⟩
theorem vts_one {X : Cx} {pa : Pin} {Γ : Gm} {Q : Bool → Gm → Prop} {c : Expr} (h : VT X pa c Γ Q) : VTs X pa [c] Γ Q := fun F σ H G S => twTs_of (pts_one pt_tw) (h F σ H G S)
/-- in the block of a comprehension -/
def InB (X : Cx) (scope : Scope) (P : Cx → Prop) : Prop := ∀ (s : Shared) (H : Hp) (C : Addr) (cl : List (Str × Addr)) (fp : List Addr), P (X.blk s H scope (compEnvC scope cl C X.env) fp)
structure TgB (X : Cx) (scope : Scope) (tg : Expr) (vs : List Nat) (put : D → Gm → Gm → Prop) : Prop where
  ex : ∃ g, InB X scope (fun B => PG B tg g) ∧ TgOk X tg g vs put
section
variable {X : Cx} {pa : Pin} {elt tg iter : Expr} {ifs : List Expr} {scope : Scope} {own : List (Str × Nat)} {Γ : Gm} {Q : Rs → Gm → Prop} {T : En} {pos : Pos} {vs : List Nat} {put : D → Gm → Gm → Prop}
theorem loc_blk {s : Shared} {H : Hp} {C : Addr} {cl : List (Str × Addr)} {fp : List Addr} {x : Str} (hx : scope.names.lookup x = some .local ∨ scope.names.lookup x = some .cell) : Loc (X.blk s H scope (compEnvC scope cl C X.env) fp).env.scope x :=
  hx.elim (fun h => .inl (lookup_relS_keep (sc := X.env.scope) (by decide) h)) fun h => .inr (lookup_relS_keep (sc := X.env.scope) (by decide) h)
theorem fn_blk {s : Shared} {H : Hp} {C : Addr} {cl : List (Str × Addr)} {fp : List Addr} {x : Str} (hx : scope.names.lookup x = some .local ∨ scope.names.lookup x = some .cell) : (X.blk s H scope (compEnvC scope cl C X.env) fp).fn x = true ∨ (X.blk s H scope (compEnvC scope cl C X.env) fp).env.scope.names.lookup x = some .local :=
  hx.elim (fun h => .inr (lookup_relS_keep (sc := X.env.scope) (by decide) h)) fun h => .inl (by show (scope.names.lookup x == some .cell) = true; rw [h]; rfl)
theorem tb_name {i : Nat} {x : Str} (hN : X.N.Nodup) (hi : X.N[i]? = some x) (hx : scope.names.lookup x = some .local ∨ scope.names.lookup x = some .cell) : TgB X scope (.Name x pos) [i] (putN i) :=
  ⟨gName i, fun s H C cl fp => pg_name (X := X.blk s H scope (compEnvC scope cl C X.env) fp) hN hi (loc_blk hx) (fn_blk hx), tg_name⟩
theorem tb_pair {i j : Nat} {x y : Str} {px py : Pos} {kk : Nat} (hc : X.calm = true) (hN : X.N.Nodup) (hij : i ≠ j) (hi : X.N[i]? = some x) (hx : scope.names.lookup x = some .local ∨ scope.names.lookup x = some .cell) (hj : X.N[j]? = some y) (hy : scope.names.lookup y = some .local ∨ scope.names.lookup y = some .cell) :
    TgB X scope (.Tuple [.Name x px, .Name y py] kk pos) [i, j] (putP i j) :=
  ⟨_, fun s H C cl fp => pg_tup (X := X.blk s H scope (compEnvC scope cl C X.env) fp) (n := 2) hc (pgs_cons (pg_name (X := X.blk s H scope (compEnvC scope cl C X.env) fp) hN hi (loc_blk hx) (fn_blk hx))
    (pgs_cons (pg_name (X := X.blk s H scope (compEnvC scope cl C X.env) fp) hN hj (loc_blk hy) (fn_blk hy)) pgs_nil)), tg_pair hij⟩
/-- what the turns of a comprehension owe -/
def LcOk (X : Cx) (pa : Pin) (scope : Scope) (elt : Expr) (ifs : List Expr) (vs : List Nat) (put : D → Gm → Gm → Prop) (Q : Rs → Gm → Prop) : List D → Gm → Prop := fun xs Γ1 =>
  ∃ Iv : Nat → List D → Gm → Prop, xs.length ≤ sizeLine ∧ Iv 0 [] (wipeG Γ1 vs) ∧ (∀ i ds x Γ', xs[i]? = some x → Iv i ds Γ' → ds.length ≤ i ∧ ∃ Γ2, put x Γ' Γ2 ∧
    InB X scope fun B => VTs B pa ifs Γ2 fun b Γ3 => (b = true → InB X scope fun B => VE B pa elt Γ3 fun r Γ4 => ∃ y, r.fz = .d y ∧ Iv (i + 1) (ds ++ [y]) (wipeG Γ4 vs)) ∧ (b = false → Iv (i + 1) ds (wipeG Γ3 vs))) ∧
  ∀ ds Γ', Iv xs.length ds Γ' → Q (.n (.l ds)) Γ'
def teB (X : Cx) (scope : Scope) (e : Expr) : TE := fun σ H Q => InB X scope fun B => tw B e σ H Q
def ttB (X : Cx) (scope : Scope) (ifs : List Expr) : TT := fun σ H Q => InB X scope fun B => twTs B ifs σ H Q
theorem wipe_set (v : Nat) : ∀ (us : List Nat) (σ : L2.St), L2.wipe (σ.set v none) us = (L2.wipe σ us).set v none
  | [], _ => rfl
  | u :: us, σ => by
    show (L2.wipe (σ.set v none) us).set u none = ((L2.wipe σ us).set u none).set v none
    rw [wipe_set v us σ]
    by_cases h : v = u
    · subst h; rfl
    · rw [List.set_comm _ _ h]
theorem wipe_wipe (σ : L2.St) : ∀ us : List Nat, L2.wipe (L2.wipe σ us) us = L2.wipe σ us
  | [] => rfl
  | u :: us => by
    show (L2.wipe ((L2.wipe σ us).set u none) us).set u none = (L2.wipe σ us).set u none
    rw [wipe_set, wipe_wipe σ us, List.set_set]
theorem lc_tell {Z : VK} {wi : TI} {g : TG} (hv : ∀ i ∈ vs, pa i = none) (tok : TgOk X tg g vs put) {F : Hp} {σ : L2.St} {H G : Hp}
    (hi : ∀ R : L2.It → Hp → Prop, (∀ J H1 G1 Γ1 xs, Ex G G1 → Sk0 X.K pa F σ H1 G1 Γ1 → LcOk X pa scope elt ifs vs put Q xs Γ1 → Wk X.K J G1 xs → R J H1) → wi σ H R)
    (hz : ∀ v H', (∃ G' Γ' r, Ex G G' ∧ StR X.K pa F σ H' G' Γ' v r ∧ Q r Γ') → Z v H') :
    tLc wi g (ttB X scope ifs) (teB X scope elt) vs σ H Z := by
  refine hi _ fun J H1 G1 Γ1 xs e1 ⟨α1, S1⟩ ⟨Iv, hzl, i0, step, fin⟩ wk Dp hD => ?_
  have f0 : F Dp = none := by
    cases q : F Dp with
    | none => rfl
    | some o => obtain ⟨u, hu⟩ := (S1.fr Dp o q).1.some; rw [hu] at hD; cases hD
  let Pv : Nat → Hp → Prop := fun i H' => ∃ G' Γ' acc ds, Ex G1 G' ∧ Sk0 X.K pa (upd F Dp (.lst acc)) (L2.wipe σ vs) H' G' Γ' ∧ ReA X.K G' acc ds ∧ Iv i ds Γ'
  refine ⟨fun i m H' => m = xs.length - i ∧ i ≤ xs.length ∧ Pv i H', ⟨xs.length, by simp, Nat.zero_le _, G1, _, [], [], Ex.refl G1, ⟨α1, (S1.frame hD).wipe hv⟩, .nil, i0⟩, ?_⟩
  rintro i m H' ⟨rfl, hle, G', Γ', acc, ds, e', ⟨α, S'⟩, ra, iv⟩
  obtain ⟨w1, w2, w3⟩ := wk i H' (e'.trans S'.ext)
  by_cases hlt : i < xs.length
  · refine .inr ⟨w1 hlt, fun H2 => i + 1 ≤ xs.length ∧ Pv (i + 1) H2, fun H2 q => ⟨xs.length - (i + 1), by omega, rfl, q⟩, fun x H2 y => ?_⟩
    obtain ⟨d, hd, yl⟩ := w3 x H2 hlt y
    have yl' : Yl X.K G' H' x H2 d := by
      rcases yl with ⟨e, r⟩ | ⟨t, vs, ds, q1, q2, q3, q4, r⟩
      · exact .inl ⟨e, r.mono e'⟩
      · exact .inr ⟨t, vs, ds, q1, q2, q3, q4, r.mono e'⟩
    obtain ⟨G2, e2, S2, r2⟩ := yl'.got S'
    obtain ⟨hl, Γ2, hp2, hb⟩ := step i ds d Γ' hd iv
    refine tok.run pa _ _ H2 G2 Γ' Γ2 α x d S2 r2 hv hp2 _ fun σ3 hw S3 => ?_
    have hw2 : L2.wipe σ3 vs = L2.wipe σ vs := by rw [hw]; exact wipe_wipe σ vs
    refine ⟨hw2, fun s H0 C cl fp => ?_⟩
    refine (hb s H0 C cl fp _ σ3 H2 G2 ⟨α, S3⟩).mono fun b H3 ⟨G3, Γ3, e3, S4, q1, q2⟩ => ?_
    cases b with
    | true =>
      rw [if_pos rfl]
      refine fun s H0 C cl fp => (q1 rfl s H0 C cl fp _ σ3 H3 G3 S4).mono fun v H4 ⟨G4, Γ4, r, e4, S5, y, ey, iv4⟩ => ?_
      obtain ⟨G5, e5, S6⟩ := S5.fz
      have cv := S6.cv
      rw [ey] at cv
      obtain ⟨α6, S6, _⟩ := S6
      have rv : Re X.K G5 v y := cv
      refine ⟨acc, (S6.fr Dp _ upd_same).1.eqn (by intro _ z; cases z), by rw [ra.length]; omega, hlt, G5, _, acc ++ [v], ds ++ [y], (((e'.trans e2).trans e3).trans e4).trans e5, ⟨α6, ?_⟩, (ra.mono (((e2.trans e3).trans e4).trans e5)).append (.one rv), iv4⟩
      have S7 := S6.wipe hv
      rw [hw2] at S7
      exact S7.reframe
    | false =>
      rw [if_neg Bool.false_ne_true]
      obtain ⟨α4, S4⟩ := S4
      have S7 := S4.wipe hv
      rw [hw2] at S7
      exact ⟨hlt, G3, _, acc, ds, (e'.trans e2).trans e3, ⟨α4, S7⟩, ra.mono (e2.trans e3), q2 rfl⟩
  · have e : i = xs.length := by omega
    subst e
    exact .inl ⟨w2 (Nat.le_refl _), hz _ _ ⟨G', Γ', .n (.l ds), e1.trans e', S'.unwipe.unframe f0 ⟨acc, rfl, ra⟩, fin ds Γ' iv⟩⟩
theorem ve_lc (hc : X.calm = true) (hN : X.N.Nodup) (ok : BlkOk X.N X.env.scope scope own) (ht : TgB X scope tg (own.map (·.2)) put) (hv : ∀ i ∈ own.map (·.2), pa i = none)
    (hi : VI X pa tg iter Γ (LcOk X pa scope elt ifs (own.map (·.2)) put Q)) (hs : ∀ x, foldedSetIterable iter X.env x = pure x := by intro _; rfl) : VE X pa (.ListComp elt [⟨tg, iter, ifs, 0⟩] scope pos) Γ Q := fun F σ H G S => by
  obtain ⟨wi, pi, hi⟩ := hi
  obtain ⟨g, pg, tok⟩ := ht.ex
  refine tw_of (pe_lc (te := teB X scope elt) (tt := ttB X scope ifs) hc hN pi ok pg (fun s H C cl fp => ⟨fun pins s' σ' H' Q' I h => h s H C cl fp pins s' I⟩) (fun s H C cl fp => ⟨fun pins s' σ' H' Q' I h => h s H C cl fp pins s' I⟩) hs) ?_
  exact lc_tell hv tok (hi F σ H G S) fun _ _ q => q
theorem vs_setLc {i : Nat} {y : Str} {py spos : Pos} (hc : X.calm = true) (hN : X.N.Nodup) (hy : X.N[i]? = some y) (hyl : X.env.scope.names.lookup y = some .local) (hpi : pa i = none)
    (hsw : swapsWith (.ListComp elt [⟨tg, iter, ifs, 0⟩] scope pos) (some (.Name y py)) spos.line X.env = pure true) (ok : BlkOk X.N X.env.scope scope own) (ht : TgB X scope tg (own.map (·.2)) put) (hv : ∀ i ∈ own.map (·.2), pa i = none)
    (hi : VI X pa tg iter Γ (LcOk X pa scope elt ifs (own.map (·.2)) put fun r Γ1 => stored Γ1 i r T.nx)) (hs : ∀ x, foldedSetIterable iter X.env x = pure x := by intro _; rfl) : VS X pa (.Assign [.Name y py] (.ListComp elt [⟨tg, iter, ifs, 0⟩] scope pos) spos) Γ T := fun F σ H G S => by
  obtain ⟨wi, pi, hi⟩ := hi
  obtain ⟨g, pg, tok⟩ := ht.ex
  refine twS_of (ps_setLc (te := teB X scope elt) (tt := ttB X scope ifs) hc hN hy hyl hsw pi ok pg (fun s H C cl fp => ⟨fun pins s' σ' H' Q' I h => h s H C cl fp pins s' I⟩) (fun s H C cl fp => ⟨fun pins s' σ' H' Q' I h => h s H C cl fp pins s' I⟩) hs) ?_
  exact lc_tell hv tok (hi F σ H G S) fun v H1 ⟨G1, Γ1, r, e1, S1, q⟩ => by
    obtain ⟨α, S, rv⟩ := S1
    show stk X.K pa F G T.nx _ _
    cases r with
    | d y => exact ⟨G1, _, e1, ⟨α, S.setD hpi rv⟩, q⟩
    | n c => obtain ⟨p, ho, rfl, g0, f0, na, hH, rc⟩ := rv; exact ⟨G1, _, e1, ⟨_, S.setO hpi g0 f0 na hH rc⟩, q⟩
    | s j => exact False.elim q
end
end AV
set_option Elab.async false
set_option linter.all false
set_option maxRecDepth 100000
set_option maxHeartbeats 4000000
namespace AV
open PySem PySem.Spec PyProof.Rows L2
/-! ## a def's promise, values for addresses -/
abbrev SpT := List It → (Rs → List It → Prop) → Prop
def pinI (its : List It) (α : Nat → Addr) : Pin := ⟨fun i => match its[i]? with | some (.o _) => some (α i) | _ => none, []⟩
/-- the arguments behind -/
def outIt : It → Option (Option It) → It
  | .o _, some (some (.o c')) => .o c'
  | it, _ => it
def outI : List It → Gm → List It
  | [], _ => []
  | it :: its, [] => outIt it none :: outI its []
  | it :: its, g :: Γ => outIt it (some g) :: outI its Γ
theorem outI_length : ∀ (its : List It) (Γ : Gm), (outI its Γ).length = its.length
  | [], _ => rfl
  | _ :: its, [] => by simp [outI, outI_length its []]
  | _ :: its, _ :: Γ => by simp [outI, outI_length its Γ]
theorem outI_get : ∀ (its : List It) (Γ : Gm) (i : Nat) (it : It), its[i]? = some it → (outI its Γ)[i]? = some (outIt it Γ[i]?)
  | _ :: _, [], 0, it, h => by cases h; rfl
  | _ :: its, [], i + 1, it, h => by simpa [outI] using outI_get its [] i it (by simpa using h)
  | _ :: _, g :: Γ, 0, it, h => by cases h; rfl
  | _ :: its, g :: Γ, i + 1, it, h => by simpa [outI] using outI_get its Γ i it (by simpa using h)
/-- a call's end: the result r, the arguments its' behind -/
structure EndV (K : PySem.W.Frag) (F G : Hp) (α : Nat → Addr) (its : List It) (v : V) (H' G' : Hp) (its' : List It) (r : Rs) : Prop where
  ex : Ex G G'
  ext : Ex G' H'
  fr : ∀ a o, F a = some o → FrH G' H' a o ∧ G' a = none
  len : its'.length = its.length
  ow : ∀ i c0, its[i]? = some (.o c0) → ∃ c, its'[i]? = some (.o c) ∧ G' (α i) = none ∧ ∃ ho, H' (α i) = some ho ∧ RC K G' ho c
  res : match r with
    | .d x => Re K G' v x
    | .n c => ∃ p ho, v = .ref p ∧ G' p = none ∧ F p = none ∧ (∀ i c0, its[i]? = some (.o c0) → α i ≠ p) ∧ H' p = some ho ∧ RC K G' ho c
    | .s _ => False
def SpV (K : PySem.W.Frag) (n : Nat) (sp : SpT) : Sp := fun vs H Q _ => vs.length = n ∧ ∃ (F G : Hp) (α : Nat → Addr) (its : List It) (R : Rs → List It → Prop),
  its.length = n ∧ Sk K (pinI its α) F (vs.map some) H G (its.map some) α ∧ sp its R ∧ ∀ v H', (∃ G' its' r, EndV K F G α its v H' G' its' r ∧ R r its') → Q v H'
/-- the end of a body -/
def rtOk (pa : Pin) (Γ : Gm) (R : Rs → Prop) : Rs → Prop
  | .d x => R (.d x)
  | .n c => R (.n c)
  | .s i => pa i = none ∧ ∃ c, Γ[i]? = some (some (.o c)) ∧ R (.n c)
def endOf (pa : Pin) (its : List It) (R : Rs → List It → Prop) : En := { nx := fun Γ => R (.d .non) (outI its Γ), rt := fun r Γ => rtOk pa Γ (fun r' => R r' (outI its Γ)) r }
structure FnG (P : Program) (w : World) (K : PySem.W.Frag) (mg : Str → Option Value) (base : Heap) (CX : CXT) (k : Nat) (f : Addr) (fd : FuncData) (ps : List Str) (sp : Sp) : Prop where
  len : ∀ vs H Q E, sp vs H Q E → vs.length = ps.length
  run : ∀ (A : Around) (outer : List Env) (s : Shared) (H : Hp) (args : Args) (us : List Value) (vs : List V) (Q : VK) (E : XK), Room k A → A.guards = some [] → Env0 P w K mg base A outer s H → BindsTo s fd args (ps.zip us) → Vals vs us → sp vs H Q E →
    codeAny (model P w) A (.call (.ref f) args) (CR CX outer P w H s Q E) s
theorem FnG.mono {P : Program} {w : World} {K : PySem.W.Frag} {mg : Str → Option Value} {base : Heap} {CX : CXT} {j k : Nat} {f : Addr} {fd : FuncData} {ps : List Str} {sp : Sp} (F : FnG P w K mg base CX j f fd ps sp) (h : j ≤ k) :
    FnG P w K mg base CX k f fd ps sp := ⟨F.len, fun A outer s H args us vs Q E hr => F.run A outer s H args us vs Q E (hr.mono h)⟩
section
variable {X : Cx} {CX : CXT} {k : Nat} {f C : Addr} {fd : FuncData} {ps : List Str} {sp : Sp} {dvs : List V} {ds : List Value} {E : XK} {x m : Str} {p pos apos : Pos} {e o : Expr} {es : List Expr} {ta : TE} {t : TA}
theorem run_fnG {pins : List (Addr × Obj)} {σ : L2.St} {H : Hp} {s : Shared} {Q : VK} {us : List Value} {vs : List V} (F : FnG X.prog X.w X.K X.mg X.base CX k f fd ps sp) (hr : Room k X.A) (hgd : X.A.guards = some []) (hb : Binds X.K fd ps ds) (hd : Vals dvs ds) (hx : Passes CX X E)
    (I : Inv X pins σ H s) (r : Vals vs us) (h : sp (vs ++ dvs) H Q E) : wpAny (model X.prog X.w) X.A (call (.ref f) us) (EP X pins σ Q) X.xe s := by
  have r2 : Vals (vs ++ dvs) (us ++ ds) := r.append hd
  have hl : (us ++ ds).length = ps.length := by rw [← r2.length]; exact F.len _ _ _ _ h
  refine wpAny_call (codeAny_mono (F.run X.A X.stack s H ⟨us, []⟩ (us ++ ds) (vs ++ dvs) Q E hr hgd I.env0 (hb s us I.kIn hl) r2 h) fun r s' hq => ?_)
  cases r with
  | error e => exact hx pins σ H s e s' I hq
  | ok fl =>
    cases fl with
    | ret u => exact I.after hq
    | next => exact False.elim hq
    | brk => exact False.elim hq
    | cont => exact False.elim hq
theorem pe_callG (F : FnG X.prog X.w X.K X.mg X.base CX k f fd ps sp) (hr : Room k X.A) (hgd : X.A.guards = some []) (hg : Gl X x) (hm : X.mg x = some (.ref f)) (hk : PySem.W.keepIn X.K (.ref f) = true) (hb : Binds X.K fd ps ds) (hd : Vals dvs ds) (hx : Passes CX X E)
    (ha : PA X (e :: es) t) (hdb : (x == ("__debug__" : Str)) = false := by decide) (he : starEach (e :: es) X.env = (false, eval e X.env) :: starEach es X.env := by rfl) (hpl : (backTo pos (starEach es X.env)).any (·.1) = false := by rfl) :
    PE X (.Call (.Name x p) (e :: es) [] pos) (tCall sp dvs E t) := by
  refine ⟨fun pins s σ H Q I h => ?_⟩
  refine wpAny_Call_Name_kw (ld_glob I hg hm ?_ hdb)
  refine PySem.W.callWith_K (h₀ := X.base) I.ok.mod.kin hk (thn (ha.run pos pins s σ H _ I h) fun us s1 ⟨vs, H1, I1, r, q⟩ => ⟨I1.kIn, ?_⟩) he hpl
  exact run_fnG F hr hgd hb hd hx I1 r q
theorem pe_callG0 (F : FnG X.prog X.w X.K X.mg X.base CX k f fd ps sp) (hr : Room k X.A) (hgd : X.A.guards = some []) (hg : Gl X x) (hm : X.mg x = some (.ref f)) (hk : PySem.W.keepIn X.K (.ref f) = true) (hb : Binds X.K fd ps ds) (hd : Vals dvs ds) (hx : Passes CX X E)
    (hdb : (x == ("__debug__" : Str)) = false := by decide) : PE X (.Call (.Name x p) [] [] pos) (tCall sp dvs E tNil) := by
  refine ⟨fun pins s σ H Q I h => ?_⟩
  refine wpAny_Call_Name_kw (ld_glob I hg hm ?_ hdb)
  exact PySem.W.callWith_K0 I.kIn hk (run_fnG (us := []) F hr hgd hb hd hx I .nil h)
theorem run_makeG {pins : List (Addr × Obj)} {σ : L2.St} {H : Hp} {s : Shared} {Q : VK} {us : List Value} {vs : List V} (M : Mk X.K C f) (F : FnG X.prog X.w X.K X.mg X.base CX k f fd ps sp) (hr : Room (k + 1) X.A) (hgd : X.A.guards = some []) (hb : Binds X.K fd ps ds) (hd : Vals dvs ds)
    (hx : Passes CX X E) (I : Inv X pins σ H s) (r : Vals vs us)
    (h : ∀ x dx, H x = none → H dx = none → dx ≠ x → sp (.ref x :: (vs ++ dvs)) (upd (upd H dx (.own x)) x (.ins C dx [])) (fun v H2 => v = .non ∧ Q (.ref x) H2) E) :
    wpAny (model X.prog X.w) X.A (call (.ref C) us) (EP X pins σ Q) X.xe s := by
  have hq := h (s.heap.objs.size + 1) s.heap.objs.size (I.hok.fresh (Nat.le_succ _)) (I.hok.fresh (Nat.le_refl _)) (Nat.ne_of_lt (Nat.lt_succ_self _))
  have I2 := Inv.made (C := C) I
  have r2 : Vals (V.ref (s.heap.objs.size + 1) :: (vs ++ dvs)) (Value.ref (s.heap.objs.size + 1) :: (us ++ ds)) := .cons rfl (r.append hd)
  have hl : (Value.ref (s.heap.objs.size + 1) :: us ++ ds).length = ps.length := by
    have e := r2.length
    rw [F.len _ _ _ _ hq] at e
    exact e.symm
  refine wpAny_call (make_map (f := f) I.kIn M.makes M.init (beq_iff_eq.mp M.fn) (codeAny_mono (F.run _ X.stack _ _ ⟨Value.ref (s.heap.objs.size + 1) :: us, []⟩ (Value.ref (s.heap.objs.size + 1) :: (us ++ ds)) _ _ E (hr.make C us [])
    (by first | exact hgd | (show _ = _; simpa [Around.under, Code.guards, pushGuards] using hgd)) (I2.env0.make C us []) (hb _ (Value.ref (s.heap.objs.size + 1) :: us) I2.kIn hl) r2 hq) fun r s' hq' => ?_))
  cases r with
  | error e => exact hx pins σ _ _ e s' I2 hq'
  | ok fl =>
    cases fl with
    | ret u =>
      obtain ⟨v, H', I3, rv, ev, q3⟩ := I2.after hq'
      subst ev
      exact ⟨rv, ⟨V.ref (s.heap.objs.size + 1), H', I3, rfl, q3⟩⟩
    | next => exact False.elim hq'
    | brk => exact False.elim hq'
    | cont => exact False.elim hq'
theorem pe_makeG (M : Mk X.K C f) (F : FnG X.prog X.w X.K X.mg X.base CX k f fd ps sp) (hr : Room (k + 1) X.A) (hgd : X.A.guards = some []) (hg : Gl X x) (hm : X.mg x = some (.ref C)) (hb : Binds X.K fd ps ds) (hd : Vals dvs ds) (hx : Passes CX X E)
    (ha : PA X (e :: es) t) (hdb : (x == ("__debug__" : Str)) = false := by decide) (he : starEach (e :: es) X.env = (false, eval e X.env) :: starEach es X.env := by rfl) (hpl : (backTo pos (starEach es X.env)).any (·.1) = false := by rfl) :
    PE X (.Call (.Name x p) (e :: es) [] pos) (tMake C sp dvs E t) := by
  refine ⟨fun pins s σ H Q I h => ?_⟩
  refine wpAny_Call_Name_kw (ld_glob I hg hm ?_ hdb)
  refine PySem.W.callWith_K (h₀ := X.base) I.ok.mod.kin M.kp (thn (ha.run pos pins s σ H _ I h) fun us s1 ⟨vs, H1, I1, r, q⟩ => ⟨I1.kIn, ?_⟩) he hpl
  exact run_makeG M F hr hgd hb hd hx I1 r q
theorem fn_ofG {CX : CXT} {P : Program} {w : World} {K : PySem.W.Frag} {mg : Str → Option Value} {base : Heap} {k : Nat} {f : Addr} {name qual : Str} {params : Arguments} {body : List Stmt} {scope : Scope} {dV kV doc pm cdv ct oc : Value} {an od : Option Addr}
    {osl : Array (Option Value)} {N ps : List Str} {sp : Sp} (lk : K.lookup f = some ⟨oc, od, .func (PySem.W.fnOf name qual params body scope dV kV doc pm an cdv ct), osl⟩) (hcd : PySem.W.codeIn K cdv qual = true) (S : FnScope N ps scope)
    (len : ∀ vs H Q E, sp vs H Q E → vs.length = ps.length)
    (hbody : ∀ (A : Around) (outer : List Env) (s : Shared) (H : Hp) (vs : List V) (Q : VK) (E : XK), Room k (A.deeper (envOfC qual scope s.heap.objs.size f cdv)) → (A.deeper (envOfC qual scope s.heap.objs.size f cdv)).guards = some [] → sp vs H Q E →
      ∃ t, PSs (cxOf CX P w K mg base N qual scope f cdv A outer s H E) body t ∧ t { nx := fun _ H' => Q .non H', rt := Q } (start N vs) H) :
    FnG P w K mg base CX (k + 1) f (PySem.W.fnOf name qual params body scope dV kV doc pm an cdv ct) ps sp := by
  refine ⟨len, fun A outer s H args us vs Q E hr hgd e0 hb r hsp => ?_⟩
  have hl := len _ _ _ _ hsp
  have KX : K.In s.heap := e0.mod.kin.keeps fun b o e => (e0.bs b o e).1
  have lim : s.heap.NoLimit := e0.mod.nolimit.keeps fun b o e => (e0.bs b o e).1
  have hkind : ∀ y ∈ ps.zip us, scope.names.lookup y.1 = some .local ∨ (scope.names.lookup y.1 = some .cell ∧ ((cellsFrom (s.heap.objs.size + 1) scope.names []).lookup y.1).isSome = true) := fun ⟨n, v⟩ hy => by
    rcases S.par n (List.of_mem_zip hy).1 with q | q
    · exact .inl q
    · exact .inr ⟨q, PySem.W.cellsFrom_some _ _ _ (.inl q)⟩
  refine codeAny_call_function hr.depth (KX _ _ lk) rfl S.co S.gen rfl (PySem.W.codeRec_of KX hcd) (hb _ _ _ _ ?_)
  refine wpAny_newFunctionEnv_cells S.kind hkind fun env he s1 x => ?_
  subst he
  refine ⟨lim.keeps x.toInCall.keep, codeAny_func ?_⟩
  obtain ⟨t, ht, hq⟩ := hbody A outer s H vs Q E (hr.deeper _) hgd hsp
  have I : Inv (cxOf CX P w K mg base N qual scope f cdv A outer s H E) [] (start N vs) H s1 := inv_start S hr.hd e0 hl r x
  refine wpAny_mono (ht.run [] s1 (start N vs) H _ I hq) (fun fl s' hs => ?_) fun e s' hs => hs
  have fin : ∀ {σ' : L2.St} {H' : Hp} {v : V} {u : Value}, Inv (cxOf CX P w K mg base N qual scope f cdv A outer s H E) [] σ' H' s' → RelV v u → Q v H' → CE outer P w H s Q u s' :=
    fun {σ' H' v u} J rv q => ⟨v, H', J.os, J.bare, J.base, J.hok, rv, q⟩
  cases fl with
  | ret u =>
    obtain ⟨v, σ', H', J, rv, q⟩ := hs
    exact fin J rv q
  | next =>
    obtain ⟨σ', H', J, q⟩ := hs
    exact fin (v := V.non) (u := Value.none) J rfl q
  | brk =>
    obtain ⟨_, _, _, q⟩ := hs
    exact False.elim q
  | cont =>
    obtain ⟨_, _, _, q⟩ := hs
    exact False.elim q
end
/-! ## a def, by its body -/
theorem pinI_some {its : List It} {α : Nat → Addr} {i : Nat} {p : Addr} (h : (pinI its α) i = some p) : p = α i ∧ ∃ c, its[i]? = some (.o c) := by
  simp only [pinI] at h
  split at h
  · rename_i c e; cases h; exact ⟨rfl, c, e⟩
  · cases h
theorem pinI_of {its : List It} {α : Nat → Addr} {i : Nat} {c : C} (h : its[i]? = some (.o c)) : (pinI its α) i = some (α i) := by simp only [pinI]; rw [h]
/-- the slots at a def's start -/
def gm0 (N : List Str) (its : List It) : Gm := its.map some ++ List.replicate (N.length - its.length) none
theorem sk_start {K : PySem.W.Frag} {N : List Str} {F H G : Hp} {α : Nat → Addr} {its : List It} {vs : List V} (S : Sk K (pinI its α) F (vs.map some) H G (its.map some) α) : Sk K (pinI its α) F (start N vs) H G (gm0 N its) α := by
  have hl : vs.length = its.length := by have := S.len; simpa using this
  have h0 : ∀ {i : Nat} {it : It}, (gm0 N its)[i]? = some (some it) → (its.map some)[i]? = some (some it) ∧ i < vs.length := fun {i it} h => by
    unfold gm0 at h
    by_cases hi : i < its.length
    · rw [List.getElem?_append_left (by simpa using hi)] at h; exact ⟨h, by omega⟩
    · rw [List.getElem?_append_right (by simpa using hi), List.getElem?_replicate] at h
      split at h <;> cases h
  refine ⟨S.ext, S.fr, ?_, fun i it hi => ?_, fun i j c c' hi hj => S.inj i j c c' (h0 hi).1 (h0 hj).1, fun i p hp => ?_, S.tab⟩
  · unfold L2.start gm0; simp [hl]
  · obtain ⟨h1, h2⟩ := h0 hi
    have q := S.sl i it h1
    have e : ∀ w, (vs.map some)[i]? = some (some w) → (start N vs)[i]? = some (some w) := fun w h => by
      unfold L2.start; rw [List.getElem?_append_left (by simpa using h2)]; exact h
    cases it with
    | d z => obtain ⟨w, e1, e2⟩ := q; exact ⟨w, e w e1, e2⟩
    | o c => obtain ⟨e1, e2⟩ := q; exact ⟨e _ e1, e2⟩
  · obtain ⟨e1, c, e2⟩ := S.pin i p hp
    refine ⟨e1, c, ?_⟩
    unfold gm0
    have : i < (its.map some).length := (List.getElem?_eq_some_iff.mp e2).1
    rw [List.getElem?_append_left this]; exact e2
theorem sk_end {K : PySem.W.Frag} {F G G' H' : Hp} {σ' : L2.St} {Γ' : Gm} {α : Nat → Addr} {its : List It} {v : V} {r : Rs} {R : Rs → List It → Prop} (e : Ex G G') (S : StR K (pinI its α) F σ' H' G' Γ' v r) (q : rtOk (pinI its α) Γ' (fun r' => R r' (outI its Γ')) r) :
    ∃ G' its' r, EndV K F G α its v H' G' its' r ∧ R r its' := by
  obtain ⟨α', S, rv⟩ := S
  have ow : ∀ i c0, its[i]? = some (.o c0) → ∃ c, (outI its Γ')[i]? = some (.o c) ∧ α' i = α i ∧ Γ'[i]? = some (some (.o c)) := fun i c0 h => by
    obtain ⟨e1, c, e2⟩ := S.pin i (α i) (pinI_of h)
    exact ⟨c, by rw [outI_get its Γ' i _ h, e2]; rfl, e1, e2⟩
  have mk : ∀ r', (match r' with
    | .d x => Re K G' v x
    | .n c => ∃ p ho, v = .ref p ∧ G' p = none ∧ F p = none ∧ (∀ i c0, its[i]? = some (.o c0) → α i ≠ p) ∧ H' p = some ho ∧ RC K G' ho c
    | .s _ => False) → EndV K F G α its v H' G' (outI its Γ') r' := fun r' hres => ⟨e, S.ext, S.fr, outI_length its Γ', fun i c0 h => by
      obtain ⟨c, e1, e2, e3⟩ := ow i c0 h
      obtain ⟨_, g0, _, ho, hh, rc⟩ := S.ow e3
      rw [e2] at g0 hh
      exact ⟨c, e1, g0, ho, hh, rc⟩, hres⟩
  cases r with
  | d x => exact ⟨G', _, _, mk (.d x) rv, q⟩
  | n c =>
    obtain ⟨p, ho, e1, e2, e3, e4, e5, e6⟩ := rv
    refine ⟨G', _, _, mk (.n c) ⟨p, ho, e1, e2, e3, fun i c0 h => ?_, e5, e6⟩, q⟩
    obtain ⟨c1, _, f2, f3⟩ := ow i c0 h
    rw [← f2]; exact e4 i _ f3
  | s j =>
    obtain ⟨hp, c, hc, hR⟩ := q
    obtain ⟨ev, _⟩ := rv
    obtain ⟨f1, g0, f0, ho, hh, rc⟩ := S.ow hc
    rw [ev] at f1; cases f1
    refine ⟨G', _, _, mk (.n c) ⟨_, ho, rfl, g0, f0, fun i c0 h z => ?_, hh, rc⟩, hR⟩
    obtain ⟨c1, _, f2, f3⟩ := ow i c0 h
    rw [← f2] at z
    have := S.inj i j _ _ f3 hc z
    subst this
    rw [pinI_of h] at hp; cases hp
/-- THE RULE of a def: its body, from what the parameters hold -/
theorem fnv_of {CX : CXT} {P : Program} {w : World} {K : PySem.W.Frag} {mg : Str → Option Value} {base : Heap} {k : Nat} {f : Addr} {name qual : Str} {params : Arguments} {body : List Stmt} {scope : Scope} {dV kV doc pm cdv ct oc : Value} {an od : Option Addr}
    {osl : Array (Option Value)} {N ps : List Str} {sp : SpT} (lk : K.lookup f = some ⟨oc, od, .func (PySem.W.fnOf name qual params body scope dV kV doc pm an cdv ct), osl⟩) (hcd : PySem.W.codeIn K cdv qual = true) (S : FnScope N ps scope)
    (hbody : ∀ (A : Around) (outer : List Env) (s : Shared) (H : Hp) (E : XK) (its : List It) (α : Nat → Addr) (R : Rs → List It → Prop), Room k (A.deeper (envOfC qual scope s.heap.objs.size f cdv)) → (A.deeper (envOfC qual scope s.heap.objs.size f cdv)).guards = some [] → sp its R →
      VB (cxOf CX P w K mg base N qual scope f cdv A outer s H E) (pinI its α) body (gm0 N its) (endOf (pinI its α) its R)) :
    FnG P w K mg base CX (k + 1) f (PySem.W.fnOf name qual params body scope dV kV doc pm an cdv ct) ps (SpV K ps.length sp) :=
  fn_ofG lk hcd S (fun vs H Q E h => h.1) fun A outer s H vs Q E hr hgd ⟨hl, F, G, α, its, R, hl2, S, hsp, hq⟩ => ⟨_, pss_tw, by
    refine (hbody A outer s H E its α R hr hgd hsp F _ H G ⟨α, sk_start S⟩).mono ?_ ?_ ?_ ?_
    · rintro σ' H' ⟨G', Γ', e, ⟨α', S'⟩, q⟩
      exact hq _ _ (sk_end (r := .d .non) e ⟨α', S', .non⟩ q)
    · rintro v H' ⟨σ', G', Γ', r, e, S', q⟩
      exact hq _ _ (sk_end e S' q)
    · rintro σ' H' ⟨G', Γ', e, S', q⟩; exact q
    · rintro σ' H' ⟨G', Γ', e, S', q⟩; exact q⟩
end AV
set_option Elab.async false
set_option linter.all false
set_option maxRecDepth 100000
set_option maxHeartbeats 4000000
namespace AV
open PySem PySem.Spec PyProof.Rows L2
/-! ## a call, values for addresses -/
def slotsOf : List Rs → List Nat
  | [] => []
  | .s j :: rs => j :: slotsOf rs
  | _ :: rs => slotsOf rs
theorem mem_slotsOf : ∀ {rs : List Rs} {j : Nat}, j ∈ slotsOf rs ↔ ∃ i : Nat, rs[i]? = some (Rs.s j)
  | [], j => by simp [slotsOf]
  | r :: rs, j => by
    have ih := @mem_slotsOf rs j
    have hd : (∃ i : Nat, (r :: rs)[i]? = some (Rs.s j)) ↔ r = Rs.s j ∨ ∃ i : Nat, rs[i]? = some (Rs.s j) := by
      constructor
      · rintro ⟨i, h⟩
        cases i with
        | zero => exact .inl (by simpa using h)
        | succ i => exact .inr ⟨i, by simpa using h⟩
      · rintro (h | ⟨i, h⟩)
        · exact ⟨0, by simp [h]⟩
        · exact ⟨i + 1, by simpa using h⟩
    rw [hd, ← ih]
    cases r <;> simp [slotsOf, eq_comm]
theorem slots_inj : ∀ {rs : List Rs}, (slotsOf rs).Nodup → ∀ {i i' j : Nat}, rs[i]? = some (.s j) → rs[i']? = some (.s j) → i = i'
  | [], _, i, _, _, h, _ => by simp at h
  | r :: rs, hn, i, i', j, h, h' => by
    have tl : (slotsOf rs).Nodup := by
      cases r with
      | s k => exact (List.nodup_cons.mp hn).2
      | d _ => exact hn
      | n _ => exact hn
    have no : r = .s j → j ∉ slotsOf rs := fun e => by subst e; exact (List.nodup_cons.mp hn).1
    cases i with
    | zero =>
      cases i' with
      | zero => rfl
      | succ i' => exact absurd (mem_slotsOf.mpr ⟨i', by simpa using h'⟩) (no (by simpa using h))
    | succ i =>
      cases i' with
      | zero => exact absurd (mem_slotsOf.mpr ⟨i, by simpa using h⟩) (no (by simpa using h'))
      | succ i' => rw [slots_inj tl (i := i) (i' := i') (j := j) (by simpa using h) (by simpa using h')]
def itOf (Γ : Gm) : Rs → It
  | .d x => .d x
  | .n c => .d c.toD
  | .s j => match Γ[j]? with | some (some (.o c)) => .o c | _ => .d .non
def putB (Γ : Gm) : List Rs → List It → Gm
  | .s j :: rs, .o c :: its => (putB Γ rs its).set j (some (.o c))
  | _ :: rs, _ :: its => putB Γ rs its
  | _, _ => Γ
theorem putB_length (Γ : Gm) : ∀ (rs : List Rs) (its : List It), (putB Γ rs its).length = Γ.length
  | [], _ => rfl
  | r :: rs, [] => by cases r <;> rfl
  | r :: rs, it :: its => by
    have ih := putB_length Γ rs its
    cases r <;> cases it <;> simp [putB, ih]
theorem putB_out (Γ : Gm) {i : Nat} : ∀ (rs : List Rs) (its : List It), i ∉ slotsOf rs → (putB Γ rs its)[i]? = Γ[i]?
  | [], _, _ => rfl
  | r :: rs, [], _ => by cases r <;> rfl
  | r :: rs, it :: its, h => by
    cases r with
    | s j =>
      have h1 : ¬ i = j ∧ i ∉ slotsOf rs := by simpa [slotsOf] using h
      have ih := putB_out Γ rs its h1.2
      cases it with
      | o c => show ((putB Γ rs its).set j _)[i]? = _; rw [List.getElem?_set_ne (Ne.symm h1.1)]; exact ih
      | d x => exact ih
    | d x => exact putB_out Γ rs its h
    | n c => exact putB_out Γ rs its h
theorem putB_in (Γ : Gm) {i : Nat} {c : C} : ∀ (rs : List Rs) (its : List It) (k : Nat), (slotsOf rs).Nodup → rs[k]? = some (.s i) → its[k]? = some (.o c) → i < Γ.length → (putB Γ rs its)[i]? = some (some (.o c))
  | [], _, _, _, h, _, _ => by simp at h
  | _ :: _, [], _, _, _, h, _ => by simp at h
  | r :: rs, it :: its, 0, hn, h, h', hl => by
    have e : r = .s i := by simpa using h
    have e' : it = .o c := by simpa using h'
    subst e; subst e'
    show ((putB Γ rs its).set i _)[i]? = _
    rw [List.getElem?_set_self (by rw [putB_length]; exact hl)]
  | r :: rs, it :: its, k + 1, hn, h, h', hl => by
    have tl : (slotsOf rs).Nodup := by
      cases r with
      | s k => exact (List.nodup_cons.mp hn).2
      | d _ => exact hn
      | n _ => exact hn
    have ih := putB_in Γ (c := c) rs its k tl (by simpa using h) (by simpa using h') hl
    cases r with
    | s j =>
      cases it with
      | o c' =>
        have ne : j ≠ i := fun e => by
          subst e
          exact (List.nodup_cons.mp hn).1 (mem_slotsOf.mpr ⟨k, by simpa using h⟩)
        show ((putB Γ rs its).set j _)[i]? = _
        rw [List.getElem?_set_ne ne]; exact ih
      | d x => exact ih
    | d x => exact ih
    | n c => exact ih
def SlotsOk (Γ : Gm) (rs : List Rs) : Prop := (slotsOf rs).Nodup ∧ ∀ j ∈ slotsOf rs, ∃ c, Γ[j]? = some (some (.o c))
def alC (α : Nat → Addr) (rs : List Rs) : Nat → Addr := fun i => match rs[i]? with | some (.s j) => α j | _ => 0
open Classical in
noncomputable def frC (F H : Hp) (α : Nat → Addr) (Γ : Gm) (rs : List Rs) : Hp := fun a => if ∃ i c, Γ[i]? = some (some (.o c)) ∧ α i = a ∧ i ∉ slotsOf rs then H a else F a
theorem CvA.get {K : PySem.W.Frag} {σ : L2.St} {G : Hp} : ∀ {vs : List V} {rs : List Rs} {i : Nat} {r : Rs}, CvA K σ G vs rs → rs[i]? = some r → ∃ v, vs[i]? = some v ∧ Cv K σ G v r
  | _, _, _, _, .nil, e => by simp at e
  | _, _, 0, _, .cons r _, e => by simp at e; subst e; exact ⟨_, rfl, r⟩
  | _, _, i + 1, d, .cons _ t, e => by
    obtain ⟨v, h1, h2⟩ := CvA.get (i := i) (r := d) t (by simpa using e)
    exact ⟨v, by simpa using h1, h2⟩
theorem CvA.length {K : PySem.W.Frag} {σ : L2.St} {G : Hp} : ∀ {vs : List V} {rs : List Rs}, CvA K σ G vs rs → vs.length = rs.length
  | _, _, .nil => rfl
  | _, _, .cons _ t => by simp [CvA.length t]
section
variable {K : PySem.W.Frag} {pa : Pin} {F : Hp} {σ : L2.St} {H H' G G' : Hp} {Γ : Gm} {α : Nat → Addr} {vs : List V} {rs : List Rs}
theorem itOf_o {r : Rs} {c : C} (h : itOf Γ r = .o c) : ∃ j, r = .s j ∧ Γ[j]? = some (some (.o c)) := by
  cases r with
  | d x => cases h
  | n c => cases h
  | s j =>
    unfold itOf at h
    simp only at h
    split at h
    · rename_i c' e; cases h; exact ⟨j, rfl, e⟩
    · cases h
theorem sk_call (S : Sk K pa F σ H G Γ α) (cv : CvA K σ G vs rs) (ok : SlotsOk Γ rs) :
    Sk K (pinI (rs.map (itOf Γ)) (alC α rs)) (frC F H α Γ rs) (vs.map some) H G ((rs.map (itOf Γ)).map some) (alC α rs) := by
  have hit : ∀ {i : Nat} {it : It}, (List.map some (rs.map (itOf Γ)))[i]? = some (some it) → ∃ r, rs[i]? = some r ∧ it = itOf Γ r := fun {i it} h => by
    rw [List.getElem?_map, List.getElem?_map] at h
    cases q : rs[i]? with
    | none => rw [q] at h; cases h
    | some r => rw [q] at h; exact ⟨r, rfl, by simpa using h.symm⟩
  refine ⟨S.ext, fun a o h => ?_, by simp [cv.length], fun i it hi => ?_, fun i i' c c' hi hi' e => ?_, fun i p hp => ?_, fun p hp => nomatch hp⟩
  · unfold frC at h
    split at h
    · rename_i hx
      obtain ⟨i, c, h1, h2, h3⟩ := hx
      subst h2
      obtain ⟨_, g0, _, ho, hh, rc⟩ := S.ow h1
      rw [hh] at h; cases h
      exact ⟨FrH.of hh rc.ntbl, g0⟩
    · exact S.fr a o h
  · obtain ⟨r, hr, rfl⟩ := hit hi
    obtain ⟨v, hv, c⟩ := cv.get hr
    have hv' : (vs.map some)[i]? = some (some v) := by rw [List.getElem?_map, hv]; rfl
    cases r with
    | d x => exact ⟨v, hv', c⟩
    | n c' => exact False.elim c
    | s j =>
      obtain ⟨cc, hc⟩ := ok.2 j (mem_slotsOf.mpr ⟨i, hr⟩)
      have e1 : itOf Γ (.s j) = .o cc := by simp only [itOf, hc]
      rw [e1]
      obtain ⟨q1, q2, q3, ho, q4, q5⟩ := S.ow hc
      have c1 : σ[j]? = some (some v) := c
      rw [c1] at q1; cases q1
      have ea : alC α rs i = α j := by unfold alC; rw [hr]
      refine ⟨by rw [ea]; exact hv', by rw [ea]; exact q2, ?_, ho, by rw [ea]; exact q4, q5⟩
      rw [ea]
      unfold frC
      split
      · rename_i hx
        obtain ⟨i2, c2, h1, h2, h3⟩ := hx
        exact absurd (mem_slotsOf.mpr ⟨i, by rw [S.inj i2 j _ _ h1 hc h2]; exact hr⟩) h3
      · exact q3
  · obtain ⟨r, hr, er⟩ := hit hi
    obtain ⟨r', hr', er'⟩ := hit hi'
    obtain ⟨j, rfl, hj⟩ := itOf_o er.symm
    obtain ⟨j', rfl, hj'⟩ := itOf_o er'.symm
    have e1 : alC α rs i = α j := by unfold alC; rw [hr]
    have e2 : alC α rs i' = α j' := by unfold alC; rw [hr']
    rw [e1, e2] at e
    obtain rfl := S.inj j j' _ _ hj hj' e
    exact slots_inj ok.1 hr hr'
  · obtain ⟨e1, c, e2⟩ := pinI_some hp
    exact ⟨e1.symm, c, by rw [List.getElem?_map, e2]; rfl⟩
theorem sk_back {v : V} {r : Rs} {its' : List It} (S : Sk K pa F σ H G Γ α) (ok : SlotsOk Γ rs) (h : EndV K (frC F H α Γ rs) G (alC α rs) (rs.map (itOf Γ)) v H' G' its' r) : StR K pa F σ H' G' (putB Γ rs its') v r := by
  have owIn : ∀ {i : Nat}, i ∈ slotsOf rs → ∃ c0 c, Γ[i]? = some (some (.o c0)) ∧ (putB Γ rs its')[i]? = some (some (.o c)) ∧ G' (α i) = none ∧ ∃ ho, H' (α i) = some ho ∧ RC K G' ho c := fun {i} hi => by
    obtain ⟨k, hk⟩ := mem_slotsOf.mp hi
    obtain ⟨c0, hc0⟩ := ok.2 i hi
    have e0 : (rs.map (itOf Γ))[k]? = some (.o c0) := by rw [List.getElem?_map, hk]; simp only [Option.map_some, itOf, hc0]
    obtain ⟨c, e1, e2, ho, e3, e4⟩ := h.ow k c0 e0
    have ea : alC α rs k = α i := by unfold alC; rw [hk]
    rw [ea] at e2 e3
    exact ⟨c0, c, hc0, putB_in Γ rs its' k ok.1 hk e1 (List.getElem?_eq_some_iff.mp hc0).1, e2, ho, e3, e4⟩
  have frOut : ∀ {i : Nat} {c : C}, Γ[i]? = some (some (.o c)) → i ∉ slotsOf rs → frC F H α Γ rs (α i) = H (α i) := fun {i c} h1 h2 => by
    unfold frC; rw [if_pos ⟨i, c, h1, rfl, h2⟩]
  have frF : ∀ {a : Addr} {o : HO}, F a = some o → frC F H α Γ rs a = some o := fun {a o} q => by
    unfold frC
    split
    · rename_i hx
      obtain ⟨i, c, h1, h2, h3⟩ := hx
      obtain ⟨_, _, f0, _⟩ := S.ow h1
      rw [h2, q] at f0; cases f0
    · exact q
  have old : ∀ {i : Nat} {c : C}, (putB Γ rs its')[i]? = some (some (.o c)) → ∃ c0, Γ[i]? = some (some (.o c0)) := fun {i c} q => by
    by_cases hi : i ∈ slotsOf rs
    · obtain ⟨c0, _, e, _⟩ := owIn hi; exact ⟨c0, e⟩
    · rw [putB_out Γ rs its' hi] at q; exact ⟨c, q⟩
  have S' : Sk K pa F σ H' G' (putB Γ rs its') α := by
    refine ⟨h.ext, fun a o q => h.fr a o (frF q), by rw [putB_length]; exact S.len, fun i it hi => ?_, fun i j c c' hi hj e => ?_, fun i p hp => ?_, S.tab⟩
    · by_cases hs : i ∈ slotsOf rs
      · obtain ⟨c0, c, e0, e1, e2, ho, e3, e4⟩ := owIn hs
        rw [e1] at hi; cases hi
        obtain ⟨q1, _, q3, _⟩ := S.ow e0
        exact ⟨q1, e2, q3, ho, e3, e4⟩
      · rw [putB_out Γ rs its' hs] at hi
        have q := S.sl i it hi
        cases it with
        | d z => obtain ⟨w, e1, e2⟩ := q; exact ⟨w, e1, e2.mono h.ex⟩
        | o c =>
          obtain ⟨q1, q2, q3, ho, q4, q5⟩ := q
          obtain ⟨f1, f2⟩ := h.fr (α i) ho (by rw [frOut hi hs]; exact q4)
          exact ⟨q1, f2, q3, ho, f1.eqn q5.ntbl, q5.mono h.ex⟩
    · obtain ⟨c1, h1⟩ := old hi
      obtain ⟨c2, h2⟩ := old hj
      exact S.inj i j _ _ h1 h2 e
    · obtain ⟨e1, c, e2⟩ := S.pin i p hp
      by_cases hs : i ∈ slotsOf rs
      · obtain ⟨c0, c', _, e3, _⟩ := owIn hs; exact ⟨e1, c', e3⟩
      · exact ⟨e1, c, by rw [putB_out Γ rs its' hs]; exact e2⟩
  refine ⟨α, S', ?_⟩
  have res := h.res
  cases r with
  | d x => exact res
  | s j => exact False.elim res
  | n c =>
    obtain ⟨p, ho, e1, e2, e3, e4, e5, e6⟩ := res
    refine ⟨p, ho, e1, e2, ?_, fun i c hi z => ?_, e5, e6⟩
    · cases q : F p with
      | none => rfl
      | some o => rw [frF q] at e3; cases e3
    · by_cases hs : i ∈ slotsOf rs
      · obtain ⟨k, hk⟩ := mem_slotsOf.mp hs
        obtain ⟨c0, hc0⟩ := ok.2 i hs
        have e0 : (rs.map (itOf Γ))[k]? = some (.o c0) := by rw [List.getElem?_map, hk]; simp only [Option.map_some, itOf, hc0]
        refine e4 k c0 e0 ?_
        have ea : alC α rs k = α i := by unfold alC; rw [hk]
        rw [ea]; exact z
      · rw [putB_out Γ rs its' hs] at hi
        obtain ⟨_, _, _, ho', q4, _⟩ := S.ow hi
        have := frOut hi hs
        rw [z, e3] at this
        rw [z, ← this] at q4; cases q4
/-- a new object for the first parameter -/
theorem sk_cons {its : List It} {x : Addr} {ho : HO} {c : C} (S : Sk K (pinI its α) F (vs.map some) H G (its.map some) α) (hx : H x = none) (rc : RC K G ho c) :
    Sk K (pinI (.o c :: its) fun i => match i with | 0 => x | i + 1 => α i) F ((V.ref x :: vs).map some) (upd H x ho) G ((It.o c :: its).map some) (fun i => match i with | 0 => x | i + 1 => α i) := by
  have S1 := S.grow (Ex.new (o := ho) hx)
  have f0 : F x = none := by
    cases q : F x with
    | none => rfl
    | some o => obtain ⟨u, hu⟩ := (S.fr x o q).1.some; rw [hu] at hx; cases hx
  have na : ∀ {i c}, (its.map some)[i]? = some (some (.o c)) → α i ≠ x := fun {i c} hi z => by
    obtain ⟨_, _, _, ho', e4, _⟩ := S.ow hi
    rw [z, hx] at e4; cases e4
  refine ⟨S1.ext, S1.fr, by simpa using S.len, fun i it hi => ?_, fun i j c c' hi hj e => ?_, fun i p hp => ?_, fun p hp => nomatch hp⟩
  · cases i with
    | zero =>
      have e : it = .o c := by simpa using hi.symm
      subst e
      exact ⟨rfl, S.ext.back hx, f0, ho, upd_same, rc⟩
    | succ i =>
      have hi' : (its.map some)[i]? = some (some it) := by simpa using hi
      have q := S1.sl i it hi'
      cases it with
      | d z => obtain ⟨w, e1, e2⟩ := q; exact ⟨w, by simpa using e1, e2⟩
      | o c => obtain ⟨e1, e2⟩ := q; exact ⟨by simpa using e1, e2⟩
  · cases i with
    | zero =>
      cases j with
      | zero => rfl
      | succ j => exact absurd e.symm (na (c := c') (by simpa using hj))
    | succ i =>
      cases j with
      | zero => exact absurd e (na (c := c) (by simpa using hi))
      | succ j => rw [S.inj i j c c' (by simpa using hi) (by simpa using hj) e]
  · obtain ⟨e1, c, e2⟩ := pinI_some hp
    exact ⟨e1.symm, c, by rw [List.getElem?_map, e2]; rfl⟩
end
section
variable {X : Cx} {pa : Pin} {CX : CXT} {k : Nat} {f Cl : Addr} {fd : FuncData} {ps : List Str} {sp : SpT} {E : XK} {x : Str} {p pos : Pos} {e o : Expr} {es : List Expr} {Γ : Gm} {Q : Rs → Gm → Prop} {T : En}
/-- the arguments serve the promise -/
def PCall (sp : SpT) (Q : Rs → Gm → Prop) : List Rs → Gm → Prop := fun rs Γ => SlotsOk Γ rs ∧ sp (rs.map (itOf Γ)) fun r its' => Q r (putB Γ rs its')
theorem ve_fn (F : FnG X.prog X.w X.K X.mg X.base CX k f fd ps (SpV X.K ps.length sp)) (hr : Room k X.A) (hgd : X.A.guards = some []) (hg : Gl X x) (hm : X.mg x = some (.ref f)) (hk : PySem.W.keepIn X.K (.ref f) = true) (hb : Binds X.K fd ps []) (hx : Passes CX X E) (hn : ps.length = (e :: es).length)
    (ha : VA X pa (e :: es) Γ fun rs Γ1 => rs.length = ps.length ∧ PCall sp Q rs Γ1) (hdb : (x == ("__debug__" : Str)) = false := by decide) (he : starEach (e :: es) X.env = (false, eval e X.env) :: starEach es X.env := by rfl) (hpl : (backTo pos (starEach es X.env)).any (·.1) = false := by rfl) :
    VE X pa (.Call (.Name x p) (e :: es) [] pos) Γ Q := ve_of (pe_callG (E := E) F hr hgd hg hm hk hb .nil hx pa_tw hdb he hpl) fun Fr σ H G S => by
  refine (ha Fr σ H G S).mono fun vs H1 ⟨G1, Γ1, rs, e1, ⟨α, S1⟩, cv, hl, ok, hsp⟩ => ?_
  refine ⟨by rw [List.append_nil, cv.length, hl], frC Fr H1 α Γ1 rs, G1, alC α rs, rs.map (itOf Γ1), _, by rw [List.length_map, hl], by rw [List.append_nil]; exact sk_call S1 cv ok, hsp, ?_⟩
  rintro v H2 ⟨G2, its', r, en, q⟩
  exact ⟨G2, _, r, e1.trans en.ex, sk_back S1 ok en, q⟩
theorem ve_fn0 (F : FnG X.prog X.w X.K X.mg X.base CX k f fd [] (SpV X.K 0 sp)) (hr : Room k X.A) (hgd : X.A.guards = some []) (hg : Gl X x) (hm : X.mg x = some (.ref f)) (hk : PySem.W.keepIn X.K (.ref f) = true) (hb : Binds X.K fd [] []) (hx : Passes CX X E)
    (ha : sp [] fun r _ => Q r Γ) (hdb : (x == ("__debug__" : Str)) = false := by decide) : VE X pa (.Call (.Name x p) [] [] pos) Γ Q := ve_of (pe_callG0 (E := E) F hr hgd hg hm hk hb .nil hx hdb) fun Fr σ H G ⟨α, S1⟩ => by
  have ok : SlotsOk Γ [] := ⟨List.nodup_nil, fun j h => by simp [slotsOf] at h⟩
  refine ⟨rfl, frC Fr H α Γ [], G, alC α [], [], _, rfl, sk_call S1 .nil ok, ha, ?_⟩
  rintro v H2 ⟨G2, its', r, en, q⟩
  have b := sk_back (rs := []) S1 ok en
  have e : putB Γ [] its' = Γ := by unfold putB; rfl
  rw [e] at b
  exact ⟨G2, Γ, r, en.ex, b, q⟩
/-- C(..) -/
def PMake (Cl : Addr) (sp : SpT) (Q : Rs → Gm → Prop) : List Rs → Gm → Prop := fun rs Γ => SlotsOk Γ rs ∧ sp (.o (.i Cl []) :: rs.map (itOf Γ)) fun r its' => ∃ fs its2, r = .d .non ∧ its' = .o (.i Cl fs) :: its2 ∧ Q (.n (.i Cl fs)) (putB Γ rs its2)
theorem ve_make (M : Mk X.K Cl f) (F : FnG X.prog X.w X.K X.mg X.base CX k f fd ps (SpV X.K ps.length sp)) (hr : Room (k + 1) X.A) (hgd : X.A.guards = some []) (hg : Gl X x) (hm : X.mg x = some (.ref Cl)) (hb : Binds X.K fd ps []) (hx : Passes CX X E)
    (ha : VA X pa (e :: es) Γ fun rs Γ1 => rs.length + 1 = ps.length ∧ PMake Cl sp Q rs Γ1) (hdb : (x == ("__debug__" : Str)) = false := by decide) (he : starEach (e :: es) X.env = (false, eval e X.env) :: starEach es X.env := by rfl) (hpl : (backTo pos (starEach es X.env)).any (·.1) = false := by rfl) :
    VE X pa (.Call (.Name x p) (e :: es) [] pos) Γ Q := ve_of (pe_makeG (E := E) M F hr hgd hg hm hb .nil hx pa_tw hdb he hpl) fun Fr σ H G S => by
  refine (ha Fr σ H G S).mono fun vs H1 ⟨G1, Γ1, rs, e1, ⟨α, S1⟩, cv, hl, ok, hsp⟩ => ?_
  intro a dx ha0 hdx hne
  have Sc := sk_call S1 cv ok
  have g1 : Ex H1 (upd H1 dx (.own a)) := Ex.new hdx
  have ha1 : (upd H1 dx (.own a)) a = none := by rw [upd_ne (Ne.symm hne)]; exact ha0
  have Sx := sk_cons (c := .i Cl []) (Sc.grow g1) ha1 (ho := .ins Cl dx []) ⟨dx, [], rfl, rfl, .nil⟩
  have frx : frC Fr H1 α Γ1 rs a = none := by
    cases q : frC Fr H1 α Γ1 rs a with
    | none => rfl
    | some o => obtain ⟨u, hu⟩ := (Sc.fr a o q).1.some; rw [hu] at ha0; cases ha0
  refine ⟨by rw [List.append_nil, List.length_cons, cv.length, hl], frC Fr H1 α Γ1 rs, G1, _, _, _, by rw [List.length_cons, List.length_map, hl], by rw [List.append_nil]; exact Sx, hsp, ?_⟩
  rintro v H2 ⟨G2, its', r, en, fs, its2, rfl, rfl, q⟩
  have vn : v = .non := Re.nonE en.res
  refine ⟨vn, ?_⟩
  obtain ⟨c, ec, g2, ho, h2, rc⟩ := en.ow 0 _ rfl
  have ec' : c = .i Cl fs := by simpa using ec.symm
  subst ec'
  have en2 : EndV X.K (frC Fr H1 α Γ1 rs) G1 (alC α rs) (rs.map (itOf Γ1)) (.ref a) H2 G2 its2 (.n (.i Cl fs)) := by
    refine ⟨en.ex, en.ext, en.fr, by have := en.len; simpa using this, fun i c0 hi => ?_, a, ho, rfl, g2, frx, fun i c0 hi z => ?_, h2, rc⟩
    · obtain ⟨c, e1, e2⟩ := en.ow (i + 1) c0 (by simpa using hi)
      exact ⟨c, by simpa using e1, e2⟩
    · obtain ⟨_, _, _, ho', q4, _⟩ := Sc.ow (i := i) (c := c0) (by rw [List.getElem?_map, hi]; rfl)
      rw [z, ha0] at q4; cases q4
  exact ⟨G2, _, _, e1.trans en.ex, sk_back S1 ok en2, q⟩
/-! ## e.f = value, on an instance of ours -/
def putD (f : Str) (x : D) : List (Str × D) → List (Str × D)
  | [] => [(f, x)]
  | (g, y) :: r => if g = f then (g, x) :: r else (g, y) :: putD f x r
theorem put_re {K : PySem.W.Frag} {G : Hp} {f : Str} {v : V} {x : D} (h : Re K G v x) : ∀ {vs : List (Str × V)} {ds : List (Str × D)}, vs.map (·.1) = ds.map (·.1) → ReA K G (vs.map (·.2)) (ds.map (·.2)) →
    (putF f v vs).map (·.1) = (putD f x ds).map (·.1) ∧ ReA K G ((putF f v vs).map (·.2)) ((putD f x ds).map (·.2))
  | [], [], _, _ => ⟨rfl, .one h⟩
  | [], _ :: _, e, _ => by cases e
  | _ :: _, [], e, _ => by cases e
  | (g, v1) :: vs, (g2, d1) :: ds, e, r => by
    have e1 : g = g2 := by have := congrArg List.head? e; simpa using this
    have e2 : vs.map (·.1) = ds.map (·.1) := by have := congrArg List.tail e; simpa using this
    subst e1
    cases r with
    | cons r1 r2 =>
      unfold putF putD
      by_cases hg : g = f
      · rw [if_pos hg, if_pos hg]; exact ⟨by simp [e2], .cons h r2⟩
      · rw [if_neg hg, if_neg hg]
        obtain ⟨q1, q2⟩ := put_re h e2 r2
        exact ⟨by simp [q1], .cons r1 q2⟩
def PFst (K : PySem.W.Frag) (f : Str) (i : Nat) (Q : Gm → Prop) : Rs → Gm → Prop := fun r Γ => ∃ y Cl fs, r = .d y ∧ Γ[i]? = some (some (.o (.i Cl fs))) ∧ Cls K Cl ∧ NoAttr K Cl f ∧ fs.length < 1000 ∧ Q (Γ.set i (some (.o (.i Cl (putD f y fs)))))
theorem vs_fld {i : Nat} {y : Str} {f : Str} {value : Expr} {py pos' : Pos} (hN : X.N[i]? = some y) (hv : Vis X.env.scope y) (hd : (y == ("__debug__" : Str)) = false) (hcd : (y == ("__classdict__" : Str)) = false)
    (h : VE X pa value Γ fun r Γ1 => PFst X.K f i T.nx r.fz Γ1) (hs : swapsWith value (some (.Attribute (.Name y py) f pos')) pos.line X.env = pure false := by rfl) : VS X pa (.Assign [.Attribute (.Name y py) f pos'] value pos) Γ T := fun F σ H G S => by
  refine twS_of (ps_fld (pe_var (i := i) hN hv hd hcd) pe_tw hs) ?_
  refine (h F σ H G S).mono fun v H1 ⟨G1, Γ1, r, e1, S1, z, Cl, fs, er, hi, c, n, hl, q⟩ => ?_
  obtain ⟨G2, e2, S2⟩ := S1.fz
  have cv := S2.cv
  rw [er] at cv
  obtain ⟨α, S3, _⟩ := S2
  have rv : Re X.K G2 v z := cv
  obtain ⟨e3, g0, f0, ho, hH, rc⟩ := S3.ow hi
  obtain ⟨dx, kvs, rfl, hk, ra⟩ := rc
  have hl2 := congrArg List.length hk
  simp only [List.length_map] at hl2
  obtain ⟨p1, p2⟩ := put_re (f := f) rv hk ra
  exact ⟨_, e3, _, Cl, dx, kvs, rfl, hH, c, n, by rw [hl2]; exact hl, G2, _, e1.trans e2, ⟨α, S3.upd hi (show RC X.K G2 (.ins Cl dx (putF f v kvs)) (.i Cl (putD f z fs)) from ⟨dx, _, rfl, p1, p2⟩)⟩, q⟩
end
end AV
set_option Elab.async false
set_option linter.all false
set_option maxRecDepth 100000
set_option maxHeartbeats 4000000
namespace AV
open PySem PySem.Spec PyProof.Rows L2
/-! ## the law's call, its guards known -/
theorem law_callG {P : Program} {w : World} {K : PySem.W.Frag} {mg mb : Str → Option Value} {CX : CXT} {k : Nat} {fa a : Addr} {fd : FuncData} {x : Str} {sp : Sp} {s₁ : Shared} {vs : List Value} {ns : List Int}
    (KX : K.In s₁.heap) (hns : s₁.heap.Ns mainGlobals mg) (hb : s₁.heap.Ns builtinsNs mb) (hbb : ∀ x : Str, x ≠ "__name__" → mb x = bootBuiltins x) (hlim : s₁.heap.NoLimit) (hg : s₁.gens = #[])
    (ha : s₁.heap.get? a = some { cls := .type "list", data := .seq vs.toArray }) (hi : IntsAre vs ns) (hl : ns.length ≤ sizeLine) (hr : Room k callerA)
    (F : ∀ base : Heap, K.In base → base.Ns mainGlobals mg → FnG P w K mg base CX k fa fd [x] sp) (hbind : ∀ (s : Shared) (u : Value), BindsTo s fd ⟨[u], []⟩ [(x, u)])
    (hsp : ∀ H : Hp, Only H → SqL K H a (ns.map V.int) → sp [.ref a] H (fun v _ => v = .bl true) fun _ _ _ => False)
    (hCX : ∀ H e s', CX [] H s₁ (fun _ _ _ => False) e s' → False) :
    codeAny (model P w) callerA (.call (.ref fa) ⟨[.ref a], []⟩) (fun r s' => r = .ok (.ret (.bool true)) ∧ OldK s₁.heap s'.heap ∧ s'.os = s₁.os ∧ AllBare s'.gens) s₁ := by
  have rv := vals_ints hi
  have lenV := hi.length
  have core : ∀ H : Hp, Only H → SqL K H a (ns.map V.int) → HOk P w H s₁.heap → (∀ b, H b ≠ none → b = a) → (H a ≠ none → K.lookup a = none) →
      codeAny (model P w) callerA (.call (.ref fa) ⟨[.ref a], []⟩) (fun r s' => r = .ok (.ret (.bool true)) ∧ OldK s₁.heap s'.heap ∧ s'.os = s₁.os ∧ AllBare s'.gens) s₁ := by
    intro H hO hS hok hA hK
    have base_of : ∀ {b : Addr} {o : Obj}, s₁.heap.get? b = some o → H b = none → (hidT s₁.heap H).get? b = some o := fun e n => hidT_get e n
    have noA : ∀ {b : Addr} {o : Obj} {es : Array DictEntry} {ep : Nat}, s₁.heap.get? b = some o → o.data = .dict es ep → H b = none := fun {b o es ep} e d => by
      cases q : H b with
      | none => rfl
      | some u =>
        have e' : b = a := hA b (by rw [q]; simp)
        subst e'
        rw [ha] at e; cases e
        have d' : Data.seq vs.toArray _ = Data.dict es ep := d
        cases d'
    have nsK : ∀ {b : Addr} {m : Str → Option Value}, s₁.heap.Ns b m → (hidT s₁.heap H).Ns b m := fun {b m} ⟨o, es, ep, e, d, r⟩ => ⟨o, es, ep, base_of e (noA e d), d, r⟩
    have hKb : K.In (hidT s₁.heap H) := fun b o e => base_of (KX b o e) (by
      cases q : H b with
      | none => rfl
      | some u =>
        have e' : b = a := hA b (by rw [q]; simp)
        subst e'
        rw [hK (by rw [q]; simp)] at e; cases e)
    have hM : Mod K mg (hidT s₁.heap H) := ⟨hKb, nsK hns, ⟨mb, nsK hb, hbb⟩, let ⟨mc, h1, h2⟩ := hlim; ⟨mc, nsK h1, h2⟩⟩
    have e0 : Env0 P w K mg (hidT s₁.heap H) callerA [] s₁ H := ⟨rfl, hM, fun b o e => of_hidT e, Nat.le_of_eq (hidT_size _ _), trivial, fun b hb => absurd (show b ∈ ([] : List Addr) from hb) (by simp), hok, .of_eq hg⟩
    refine codeAny_mono ((F _ hKb (nsK hns)).run callerA [] s₁ H ⟨[.ref a], []⟩ [.ref a] [.ref a] _ _ hr rfl e0 (hbind s₁ (.ref a)) (.cons rfl .nil) (hsp H hO hS)) fun r s' h => ?_
    cases r with
    | error e => exact (hCX H e s' h).elim
    | ok fl =>
      cases fl with
      | next => exact False.elim h
      | brk => exact False.elim h
      | cont => exact False.elim h
      | ret u =>
        obtain ⟨v, H', os, bare, un, hok', r', q⟩ := h
        have q' : v = .bl true := q
        subst q'
        obtain rfl : u = Value.bool true := r'
        refine ⟨rfl, OldK.of_keep fun b o e => ?_, os, bare⟩
        cases q : H b with
        | none => exact un.keep b o e q (by intro z; exact absurd (show b ∈ ([] : List Addr) from z) (by simp)) (by simp)
        | some u =>
          rcases hO b with z | ⟨ob, xs, z⟩
          · rw [q] at z; cases z
          · have z2 := un.frzs b ob _ z
            obtain ⟨e1, _⟩ := hok b _ z
            obtain ⟨e2, _⟩ := hok' b _ z2
            rw [e] at e1; cases e1
            exact e2
  cases hk : K.lookup a with
  | some o =>
    have e := KX a o hk
    rw [ha] at e
    cases e
    refine core (fun _ => none) (fun _ => .inl rfl) (.inr ⟨_, vs.toArray, _, hk, rfl, rfl, rfl, by rw [List.size_toArray, lenV]; exact hl, by simpa using rv⟩) (fun b u z => by have z' : (none : Option HO) = some u := z; cases z') (fun b z => absurd rfl z) fun z => absurd rfl z
  | none =>
    refine core (fun b => if b = a then some (.frz { cls := .type "list", data := .seq vs.toArray } (.lst (ns.map V.int))) else none) (fun b => ?_) (.inl (.inr ⟨{ cls := .type "list", data := .seq vs.toArray }, if_pos rfl⟩)) (fun b u z => ?_) (fun b z => ?_) fun _ => hk
    · by_cases hb : b = a
      · exact .inr ⟨_, _, if_pos hb⟩
      · exact .inl (if_neg hb)
    · by_cases hb : b = a
      · have z' := (if_pos hb).symm.trans z
        cases z'
        subst hb
        exact ⟨ha, by rw [List.length_map]; exact hl, vs, _, rv, ha⟩
      · have z' := (if_neg hb).symm.trans z
        cases z'
    · by_cases hb : b = a
      · exact hb
      · exact absurd (if_neg hb) z
/-- the promise of a law's def -/
def spLaw : SpT := fun its R => ∃ ns : List Int, its = [.d (.scr ns)] ∧ ns.length ≤ 63 ∧ R (.d (.bl true)) [.d (.scr ns)]
theorem law_start {K : PySem.W.Frag} {H : Hp} {a : Addr} {ns : List Int} {E : XK} (hl : ns.length ≤ 63) (hs : SqL K H a (ns.map V.int)) : SpV K 1 spLaw [.ref a] H (fun v _ => v = .bl true) E := by
  refine ⟨rfl, fun _ => none, H, fun _ => 0, [.d (.scr ns)], fun r _ => r = .d (.bl true), rfl, ⟨Ex.refl H, fun a o h => (by cases h), rfl, fun i it hi => ?_, fun i j c c' hi hj _ => ?_, fun i p hp => ?_, fun p hp => nomatch hp⟩, ⟨ns, rfl, hl, rfl⟩, ?_⟩
  · cases i with
    | zero =>
      have e : it = .d (.scr ns) := by simpa using hi.symm
      subst e
      exact ⟨.ref a, rfl, .scr ns hs⟩
    | succ i => simp at hi
  · cases i with
    | zero => simp at hi
    | succ i => simp at hi
  · obtain ⟨_, c, e⟩ := pinI_some hp
    cases i with
    | zero => simp at e
    | succ i => simp at e
  · rintro v H' ⟨G', its', r, en, rfl⟩
    exact Re.blE en.res
theorem walk_ofG {l : PySem.W.OpenLaw} {n k : Nat} {q : Program} {loose : List Str} {XP : (Str → Option Value) → Heap → Prop} {YP : World → Heap → Prop} {d : DefRec} {K : Params → PySem.W.Frag} {x : Str}
    (hn : l.most = some n) (hn2 : n ≤ 63) (hdf : d.params.defaults = []) (hr : Room k callerA)
    (hY : ∀ (w : World) (h : Heap), YP w h → (K w.params).In h)
    (F : ∀ (w : World) (mg : Str → Option Value) (fa : Addr) (h : Heap), (K w.params).In h → h.Ns mainGlobals mg → mg d.name = some (.ref fa) →
      ∃ fd : FuncData, (∀ (s : Shared) (u : Value), BindsTo s fd ⟨[u], []⟩ [(x, u)]) ∧
        ∀ base : Heap, (K w.params).In base → base.Ns mainGlobals mg → FnG l.prog w (K w.params) mg base L2.CX0 k fa fd [x] (SpV (K w.params) 1 spLaw)) :
    PySem.W.WalkO q loose XP YP l.row.toRowW d [] (fun f vs => PySem.call f vs) := by
  refine Att.attach_call hn hdf fun w s₀ s₁ mg mb fa o pm cd doc a vs ns G Y ho hd hcd hmg hobj hints hlen hg => ?_
  have KX := hY w _ Y
  obtain ⟨fd, hb, hF⟩ := F w mg fa _ KX G.T.g hmg
  have h63 : (63 : Nat) ≤ sizeLine := by decide
  exact law_callG KX G.T.g G.T.b G.T.builtins G.T.nolimit hg hobj hints (Nat.le_trans hlen (Nat.le_trans hn2 h63)) hr hF hb (fun H hO hS => law_start (Nat.le_trans hlen hn2) hS) fun H e s' h => h
/-! ## bundles -/
/-- a def that may be called by its name -/
structure CalV (P : Program) (w : World) (K : PySem.W.Frag) (mg : Str → Option Value) (base : Heap) (k : Nat) (x : Str) (n : Nat) (sp : SpT) : Prop where
  ex : ∃ (f : Addr) (fd : FuncData) (ps : List Str), FnG P w K mg base L2.CX0 k f fd ps (SpV K ps.length sp) ∧ mg x = some (.ref f) ∧ PySem.W.keepIn K (.ref f) = true ∧ Binds K fd ps [] ∧ ps.length = n
/-- a class that may be made by its name; sp: its __init__ -/
structure MakV (P : Program) (w : World) (K : PySem.W.Frag) (mg : Str → Option Value) (base : Heap) (k : Nat) (x : Str) (Cl : Addr) (n : Nat) (sp : SpT) : Prop where
  ex : ∃ (f : Addr) (fd : FuncData) (ps : List Str), Mk K Cl f ∧ FnG P w K mg base L2.CX0 k f fd ps (SpV K ps.length sp) ∧ mg x = some (.ref Cl) ∧ Binds K fd ps [] ∧ ps.length = n + 1
section
variable {P : Program} {w : World} {K : PySem.W.Frag} {mg : Str → Option Value} {base : Heap}
/-- the context of a body -/
abbrev bcx (P : Program) (w : World) (K : PySem.W.Frag) (mg : Str → Option Value) (base : Heap) (N : List Str) (qual : Str) (st : Stmt) (f : Addr) (cdv : Value) (A : Around) (outer : List Env) (s : Shared) (H : Hp) (E : XK) : Cx := (cxOf L2.CX0 P w K mg base N qual (defScope st) f cdv A outer s H E).nox
theorem fnv0 {x qual : Str} {st : Stmt} {f : Addr} {fd : FuncData} {N ps : List Str} {k : Nat} {sp : SpT} (F : Fun K x qual st f fd) (S : FnScope N ps (defScope st))
    (hbody : ∀ (cdv : Value) (A : Around) (outer : List Env) (s : Shared) (H : Hp) (E : XK) (its : List It) (α : Nat → Addr) (R : Rs → List It → Prop), Room k (A.deeper (envOfC qual (defScope st) s.heap.objs.size f cdv)) → (A.deeper (envOfC qual (defScope st) s.heap.objs.size f cdv)).guards = some [] → sp its R →
      VB (bcx P w K mg base N qual st f cdv A outer s H E) (pinI its α) (defBody st) (gm0 N its) (endOf (pinI its α) its R)) : FnG P w K mg base L2.CX0 (k + 1) f fd ps (SpV K ps.length sp) := by
  obtain ⟨oc, od, kV, doc, pm, an, cdv, ct, osl, rfl, lk, hcd⟩ := F.ex
  refine fn_ofG lk hcd S (fun vs H Q E h => h.1) fun A outer s H vs Q E hr hgd ⟨hl, Fr, G, α, its, R, hl2, S, hsp, hq⟩ => ⟨_, (pss_tw (X := bcx P w K mg base N qual st f cdv A outer s H E)).nox, ?_⟩
  refine (hbody cdv A outer s H E its α R hr hgd hsp Fr _ H G ⟨α, sk_start S⟩).mono ?_ ?_ ?_ ?_
  · rintro σ' H' ⟨G', Γ', e, ⟨α', S'⟩, q⟩
    exact hq _ _ (sk_end (r := .d .non) e ⟨α', S', .non⟩ q)
  · rintro v H' ⟨σ', G', Γ', r, e, S', q⟩
    exact hq _ _ (sk_end e S' q)
  · rintro σ' H' ⟨G', Γ', e, S', q⟩; exact q
  · rintro σ' H' ⟨G', Γ', e, S', q⟩; exact q
theorem calv0 {x : Str} {st : Stmt} {f : Addr} {fd : FuncData} {N ps : List Str} {k n : Nat} {sp : SpT} (F : Fun K x x st f fd) (hm : mg x = some (.ref f)) (b : Binds K fd ps []) (hn : ps.length = n) (S : FnScope N ps (defScope st))
    (hbody : ∀ (cdv : Value) (A : Around) (outer : List Env) (s : Shared) (H : Hp) (E : XK) (its : List It) (α : Nat → Addr) (R : Rs → List It → Prop), Room k (A.deeper (envOfC x (defScope st) s.heap.objs.size f cdv)) → (A.deeper (envOfC x (defScope st) s.heap.objs.size f cdv)).guards = some [] → sp its R →
      VB (bcx P w K mg base N x st f cdv A outer s H E) (pinI its α) (defBody st) (gm0 N its) (endOf (pinI its α) its R)) : CalV P w K mg base (k + 1) x n sp :=
  ⟨f, fd, ps, fnv0 F S hbody, hm, F.kp, b, hn⟩
theorem CalV.mono {x : Str} {n j k : Nat} {sp : SpT} (c : CalV P w K mg base j x n sp) (h : j ≤ k) : CalV P w K mg base k x n sp := by
  obtain ⟨f, fd, ps, F, q⟩ := c.ex
  exact ⟨f, fd, ps, F.mono h, q⟩
theorem MakV.mono {x : Str} {Cl : Addr} {n j k : Nat} {sp : SpT} (c : MakV P w K mg base j x Cl n sp) (h : j ≤ k) : MakV P w K mg base k x Cl n sp := by
  obtain ⟨f, fd, ps, M, F, q⟩ := c.ex
  exact ⟨f, fd, ps, M, F.mono h, q⟩
end
section
variable {X : Cx} {pa : Pin} {k n : Nat} {Cl : Addr} {sp : SpT} {x : Str} {p pos : Pos} {e : Expr} {es : List Expr} {Γ : Gm} {Q : Rs → Gm → Prop}
theorem ve_c (c : CalV X.prog X.w X.K X.mg X.base k x n sp) (hr : Room k X.A) (hgd : X.A.guards = some []) (hg : Gl X x) (hn : n = (e :: es).length) (ha : VA X pa (e :: es) Γ fun rs Γ1 => rs.length = n ∧ PCall sp Q rs Γ1)
    (hdb : (x == ("__debug__" : Str)) = false := by decide) (he : starEach (e :: es) X.env = (false, eval e X.env) :: starEach es X.env := by rfl) (hpl : (backTo pos (starEach es X.env)).any (·.1) = false := by rfl) : VE X pa (.Call (.Name x p) (e :: es) [] pos) Γ Q := by
  obtain ⟨f, fd, ps, F, hm, hk, hb, hl⟩ := c.ex
  subst hl
  exact ve_fn F hr hgd hg hm hk hb (E := L2.E0) L2.pass0 hn ha hdb he hpl
theorem ve_c0 (c : CalV X.prog X.w X.K X.mg X.base k x 0 sp) (hr : Room k X.A) (hgd : X.A.guards = some []) (hg : Gl X x) (ha : sp [] fun r _ => Q r Γ) (hdb : (x == ("__debug__" : Str)) = false := by decide) : VE X pa (.Call (.Name x p) [] [] pos) Γ Q := by
  obtain ⟨f, fd, ps, F, hm, hk, hb, hl⟩ := c.ex
  cases ps with
  | cons _ _ => cases hl
  | nil => exact ve_fn0 F hr hgd hg hm hk hb (E := L2.E0) L2.pass0 ha hdb
theorem ve_mk (c : MakV X.prog X.w X.K X.mg X.base k x Cl n sp) (hr : Room (k + 1) X.A) (hgd : X.A.guards = some []) (hg : Gl X x) (ha : VA X pa (e :: es) Γ fun rs Γ1 => rs.length = n ∧ PMake Cl sp Q rs Γ1)
    (hdb : (x == ("__debug__" : Str)) = false := by decide) (he : starEach (e :: es) X.env = (false, eval e X.env) :: starEach es X.env := by rfl) (hpl : (backTo pos (starEach es X.env)).any (·.1) = false := by rfl) : VE X pa (.Call (.Name x p) (e :: es) [] pos) Γ Q := by
  obtain ⟨f, fd, ps, M, F, hm, hb, hl⟩ := c.ex
  exact ve_make M F hr hgd hg hm hb (E := L2.E0) L2.pass0 (ha.mono fun rs Γ1 ⟨h1, h2⟩ => ⟨by omega, h2⟩) hdb he hpl
end
end AV
set_option Elab.async false
set_option linter.all false
set_option maxRecDepth 100000
set_option maxHeartbeats 4000000
namespace AV
open PySem PySem.Spec PyProof.Rows L2
/-! ## rules whose kind is told behind the operands -/
section
variable {X : Cx} {pa : Pin} {e a b o : Expr} {es : List Expr} {Γ Γ' : Gm} {Q Q' : Rs → Gm → Prop} {T : En} {pos p1 p2 apos cpos : Pos}
theorem opr_or {f : Value → Value → Sem Value} {r1 r2 : R2} (h1 : OpR X f r1) (h2 : OpR X f r2) : OpR X f fun v w H Q => r1 v w H Q ∨ r2 v w H Q := fun pins s σ H x y v u Q I rx ry h =>
  h.elim (h1 pins s σ H x y v u Q I rx ry) (h2 pins s σ H x y v u Q I rx ry)
inductive RPlus (Q : Rs → Gm → Prop) (Γ : Gm) : Rs → Rs → Prop
  | int {i j : Int} : Q (.d (.int (i + j))) Γ → RPlus Q Γ (.d (.int i)) (.d (.int j))
  | str {i j : Str} : i.length + j.length ≤ sizeLine → Q (.d (.str (i ++ j))) Γ → RPlus Q Γ (.d (.str i)) (.d (.str j))
  | lst {r s : Rs} {xs ys : List D} : rd Γ r = some (.lst xs) → rd Γ s = some (.lst ys) → xs.length + ys.length ≤ sizeLine → Q (.n (.l (xs ++ ys))) Γ → RPlus Q Γ r s
  | tup {r s : Rs} {xs ys : List D} : rd Γ r = some (.tup xs) → rd Γ s = some (.tup ys) → xs.length + ys.length ≤ sizeLine → Q (.d (.tup (xs ++ ys))) Γ → RPlus Q Γ r s
theorem ve_plus (h : VE X pa a Γ fun r Γ1 => VE X pa b Γ1 fun s Γ2 => RPlus Q Γ2 r.fz s.fz) : VE X pa (.BinOp a .Add b pos) Γ Q :=
  ve_two (R := fun r s Γ => RPlus Q Γ r s) (pe_op (opr_or op_add (opr_or op_add_str (opr_or op_cat op_catA))) pe_tw pe_tw) (fun F σ H G0 G Γ α v w r s ee S cv cw q => by
    cases q with
    | int q => exact .inl ⟨_, _, cv.intE, cw.intE, .trans ee (goal_int S q)⟩
    | str hz q => exact .inr (.inl ⟨_, _, cv.strE, cw.strE, hz, Goal.trans ee (goal_str S q)⟩)
    | lst hx hy hz q =>
      obtain ⟨p, vs, ev, hq, ra⟩ := cv.lst S hx
      obtain ⟨p', ws, ew, hq', ra'⟩ := cw.lst S hy
      subst ev; subst ew
      exact .inr (.inr (.inl ⟨p, p', vs, ws, rfl, rfl, hq, hq', by rw [ra.length, ra'.length]; exact hz, fun l hl => .trans ee (goal_l S hl (ra.append ra') q)⟩))
    | tup hx hy hz q =>
      have rt1 := Cv.tupR (F := F) (H := H) (α := α) cv hx
      have rt2 := Cv.tupR (F := F) (H := H) (α := α) cw hy
      obtain ⟨p, vs, ev, hq, ra⟩ := cv.tup S hx
      obtain ⟨p', ws, ew, hq', ra'⟩ := cw.tup S hy
      subst ev; subst ew
      refine .inr (.inr (.inr ⟨p, p', vs, ws, rfl, rfl, SqT.of (S.ext _ _ hq), SqT.of (S.ext _ _ hq'), by rw [ra.length, ra'.length]; exact hz, fun z => ?_, fun _ z => ?_, fun _ _ l hl => Goal.trans ee (goal_t S hl (ra.append ra') q)⟩))
      · subst z; cases ra; exact Goal.trans ee (goal_d S rt2 q)
      · subst z; cases ra'; rw [List.append_nil] at q; exact Goal.trans ee (goal_d S rt1 q)) h
inductive RTimes (Q : Rs → Gm → Prop) (Γ : Gm) : Rs → Rs → Prop
  | int {i j : Int} : CMul i j → Q (.d (.int (i * j))) Γ → RTimes Q Γ (.d (.int i)) (.d (.int j))
  | lst {r : Rs} {xs : List D} {k : Int} : rd Γ r = some (.lst xs) → 0 ≤ k → xs.length * k.toNat ≤ 100000 → k ≤ 100000 → Q (.n (.l (List.replicate k.toNat xs).flatten)) Γ → RTimes Q Γ r (.d (.int k))
  | tup {r : Rs} {xs : List D} {k : Int} : rd Γ r = some (.tup xs) → xs ≠ [] → 2 ≤ k → k ≤ 1000 → xs.length ≤ 1000 → Q (.d (.tup (List.replicate k.toNat xs).flatten)) Γ → RTimes Q Γ r (.d (.int k))
theorem ve_times (h : VE X pa a Γ fun r Γ1 => VE X pa b Γ1 fun s Γ2 => RTimes Q Γ2 r.fz s.fz) : VE X pa (.BinOp a .Mult b pos) Γ Q :=
  ve_two (R := fun r s Γ => RTimes Q Γ r s) (pe_op (opr_or op_mul (opr_or op_rep op_repT)) pe_tw pe_tw) (fun F σ H G0 G Γ α v w r s ee S cv cw q => by
    cases q with
    | int c q => exact .inl ⟨_, _, cv.intE, cw.intE, c, .trans ee (goal_int S q)⟩
    | lst hx h0 hz hk q =>
      obtain ⟨p, vs, ev, hq, ra⟩ := cv.lst S hx
      have ew := cw.intE
      subst ev; subst ew
      exact .inr (.inl ⟨p, _, vs, rfl, rfl, hq, by omega, by omega, by rw [ra.length]; exact sz5 hz, fun l hl => .trans ee (goal_l S hl (ra.rep _) q)⟩)
    | tup hx hn h2 hk hz q =>
      obtain ⟨p, vs, ev, hq, ra⟩ := cv.tup S hx
      have ew := cw.intE
      subst ev; subst ew
      exact .inr (.inr ⟨p, _, vs, rfl, rfl, SqT.of (S.ext _ _ hq), fun z => by subst z; cases ra; exact hn rfl, h2, hk, by rw [ra.length]; exact hz, fun l hl => .trans ee (goal_t S hl (ra.rep _) q)⟩)) h
/-- ints alone -/
inductive RSub (Q : Rs → Gm → Prop) (Γ : Gm) : Rs → Rs → Prop
  | int {i j : Int} : Q (.d (.int (i - j))) Γ → RSub Q Γ (.d (.int i)) (.d (.int j))
theorem ve_minus (h : VE X pa a Γ fun r Γ1 => VE X pa b Γ1 fun s Γ2 => RSub Q Γ2 r.fz s.fz) : VE X pa (.BinOp a .Sub b pos) Γ Q :=
  ve_two (R := fun r s Γ => RSub Q Γ r s) (pe_op op_sub pe_tw pe_tw) (fun F σ H G0 G Γ α v w r s ee S cv cw q => by
    cases q with | int q => exact ⟨_, _, cv.intE, cw.intE, .trans ee (goal_int S q)⟩) h
inductive RDivI (Q : Rs → Gm → Prop) (Γ : Gm) : Rs → Rs → Prop
  | int {i j : Int} : 0 < j → j < 1073741824 → Q (.d (.int (i / j))) Γ → RDivI Q Γ (.d (.int i)) (.d (.int j))
theorem ve_fdiv (h : VE X pa a Γ fun r Γ1 => VE X pa b Γ1 fun s Γ2 => RDivI Q Γ2 r.fz s.fz) : VE X pa (.BinOp a .FloorDiv b pos) Γ Q :=
  ve_two (R := fun r s Γ => RDivI Q Γ r s) (pe_op op_fdiv pe_tw pe_tw) (fun F σ H G0 G Γ α v w r s ee S cv cw q => by
    cases q with | int c d q => exact ⟨_, _, cv.intE, cw.intE, ⟨c, d⟩, .trans ee (goal_int S q)⟩) h
inductive RModI (Q : Rs → Gm → Prop) (Γ : Gm) : Rs → Rs → Prop
  | int {i j : Int} : 0 < j → Q (.d (.int (i % j))) Γ → RModI Q Γ (.d (.int i)) (.d (.int j))
theorem ve_mod (h : VE X pa a Γ fun r Γ1 => VE X pa b Γ1 fun s Γ2 => RModI Q Γ2 r.fz s.fz) : VE X pa (.BinOp a .Mod b pos) Γ Q :=
  ve_two (R := fun r s Γ => RModI Q Γ r s) (pe_op op_mod pe_tw pe_tw) (fun F σ H G0 G Γ α v w r s ee S cv cw q => by
    cases q with | int c q => exact ⟨_, _, cv.intE, cw.intE, c, .trans ee (goal_int S q)⟩) h
inductive RPowI (Q : Rs → Gm → Prop) (Γ : Gm) : Rs → Rs → Prop
  | int {i : Int} {n : Nat} : n ≤ 1000000 → i.natAbs < 2 ^ 64 → Q (.d (.int (i ^ n))) Γ → RPowI Q Γ (.d (.int i)) (.d (.int (n : Nat)))
theorem ve_pow (h : VE X pa a Γ fun r Γ1 => VE X pa b Γ1 fun s Γ2 => RPowI Q Γ2 r.fz s.fz) : VE X pa (.BinOp a .Pow b pos) Γ Q :=
  ve_two (R := fun r s Γ => RPowI Q Γ r s) (pe_op op_pow pe_tw pe_tw) (fun F σ H G0 G Γ α v w r s ee S cv cw q => by
    cases q with | @int i n c d q => exact ⟨_, _, cv.intE, cw.intE, ⟨by omega, by omega, d⟩, .trans ee (goal_int S (by rw [Int.toNat_natCast]; exact q))⟩) h
theorem str_beq (x y : Str) : (x == y) = decide (x = y) := by
  by_cases h : x = y <;> simp [h]
theorem op_eqS : OpR X (compareOp .Eq) (fun x y H Q => ∃ i j, x = V.str i ∧ y = V.str j ∧ Q (.bl (decide (i = j))) H) := by
  intro pins s σ H x y v u Q I rx ry h
  obtain ⟨i, j, rfl, rfl, q⟩ := h
  obtain ⟨t, rfl⟩ := rx
  obtain ⟨t', rfl⟩ := ry
  exact eq_str ⟨.bl (decide (i = j)), H, I, by rw [str_beq]; rfl, q⟩
theorem op_neS : OpR X (compareOp .NotEq) (fun x y H Q => ∃ i j, x = V.str i ∧ y = V.str j ∧ Q (.bl (!decide (i = j))) H) := by
  intro pins s σ H x y v u Q I rx ry h
  obtain ⟨i, j, rfl, rfl, q⟩ := h
  obtain ⟨t, rfl⟩ := rx
  obtain ⟨t', rfl⟩ := ry
  exact ne_str ⟨.bl (!decide (i = j)), H, I, by rw [bne, str_beq]; rfl, q⟩
/-- = and ≠ -/
inductive RQ (f : Bool → Bool) (Q : Bool → Gm → Prop) (Γ : Gm) : Rs → Rs → Prop
  | int {i j : Int} : Q (f (decide (i = j))) Γ → RQ f Q Γ (.d (.int i)) (.d (.int j))
  | str {i j : Str} : Q (f (decide (i = j))) Γ → RQ f Q Γ (.d (.str i)) (.d (.str j))
  | dat {r s : Rs} {x y : D} : rd Γ r = some x → rd Γ s = some y → x.fit = true → y.fit = true → Q (f (PyData.eqv x.py y.py)) Γ → RQ f Q Γ r s
def qB (Q : Rs → Gm → Prop) : Bool → Gm → Prop := fun c Γ => Q (.d (.bl c)) Γ
theorem ve_eq (hu : X.A.units + 64 < cLine) (h : VE X pa a Γ fun r Γ1 => VE X pa b Γ1 fun s Γ2 => RQ id (qB Q) Γ2 r.fz s.fz) (hm : behindInMarks .Eq b = false := by exact nomark _) : VE X pa (.Compare a [.Eq] [b] pos) Γ Q :=
  ve_two (R := fun r s Γ => RQ id (qB Q) Γ r s) (pe_cmpR (opr_or op_eqI (opr_or op_eqS (op_eqD hu))) pe_tw pe_tw hm) (fun F σ H G0 G Γ α v w r s ee S cv cw q => by
    cases q with
    | int q => exact .inl ⟨_, _, cv.intE, cw.intE, .trans ee (goal_bl S q)⟩
    | str q => exact .inr (.inl ⟨_, _, cv.strE, cw.strE, .trans ee (goal_bl S q)⟩)
    | dat er es fx fy q => exact .inr <| .inr ⟨_, _, (cv.look S er).dp (D.fit_pl fx), (cw.look S es).dp (D.fit_pl fy), D.fit_sh fx, D.fit_sh fy, .trans ee (goal_bl S q)⟩) h
theorem ve_ne (hu : X.A.units + 64 < cLine) (h : VE X pa a Γ fun r Γ1 => VE X pa b Γ1 fun s Γ2 => RQ (!·) (qB Q) Γ2 r.fz s.fz) (hm : behindInMarks .NotEq b = false := by exact nomark _) : VE X pa (.Compare a [.NotEq] [b] pos) Γ Q :=
  ve_two (R := fun r s Γ => RQ (!·) (qB Q) Γ r s) (pe_cmpR (opr_or op_neI (opr_or op_neS (op_neD hu))) pe_tw pe_tw hm) (fun F σ H G0 G Γ α v w r s ee S cv cw q => by
    cases q with
    | int q => exact .inl ⟨_, _, cv.intE, cw.intE, .trans ee (goal_bl S q)⟩
    | str q => exact .inr (.inl ⟨_, _, cv.strE, cw.strE, .trans ee (goal_bl S q)⟩)
    | dat er es fx fy q => exact .inr <| .inr ⟨_, _, (cv.look S er).dp (D.fit_pl fx), (cw.look S es).dp (D.fit_pl fy), D.fit_sh fx, D.fit_sh fy, .trans ee (goal_bl S q)⟩) h
theorem vt_eq {Q : Bool → Gm → Prop} (hu : X.A.units + 64 < cLine) (h : VE X pa a Γ fun r Γ1 => VE X pa b Γ1 fun s Γ2 => RQ id Q Γ2 r.fz s.fz) (hm : behindInMarks .Eq b = false := by exact nomark _) : VT X pa (.Compare a [.Eq] [b] pos) Γ Q :=
  vt_two (R := fun r s Γ => RQ id Q Γ r s) (pt_cmpR (opr_or op_eqI (opr_or op_eqS (op_eqD hu))) pe_tw pe_tw hm) (fun F σ H G0 G Γ α v w r s ee S cv cw q => by
    cases q with
    | int q => exact .inl ⟨_, _, cv.intE, cw.intE, .trans ee (goal_bl S ⟨_, rfl, q⟩)⟩
    | str q => exact .inr (.inl ⟨_, _, cv.strE, cw.strE, .trans ee (goal_bl S ⟨_, rfl, q⟩)⟩)
    | dat er es fx fy q => exact .inr <| .inr ⟨_, _, (cv.look S er).dp (D.fit_pl fx), (cw.look S es).dp (D.fit_pl fy), D.fit_sh fx, D.fit_sh fy, .trans ee (goal_bl S ⟨_, rfl, q⟩)⟩)
    (fun v w H Q1 Q2 f h => h.elim (fun ⟨i, j, e1, e2, q⟩ => .inl ⟨i, j, e1, e2, f _ _ q⟩) fun h => h.elim (fun ⟨i, j, e1, e2, q⟩ => .inr (.inl ⟨i, j, e1, e2, f _ _ q⟩)) fun ⟨i, j, e1, e2, s1, s2, q⟩ => .inr (.inr ⟨i, j, e1, e2, s1, s2, f _ _ q⟩)) h
theorem vt_ne {Q : Bool → Gm → Prop} (hu : X.A.units + 64 < cLine) (h : VE X pa a Γ fun r Γ1 => VE X pa b Γ1 fun s Γ2 => RQ (!·) Q Γ2 r.fz s.fz) (hm : behindInMarks .NotEq b = false := by exact nomark _) : VT X pa (.Compare a [.NotEq] [b] pos) Γ Q :=
  vt_two (R := fun r s Γ => RQ (!·) Q Γ r s) (pt_cmpR (opr_or op_neI (opr_or op_neS (op_neD hu))) pe_tw pe_tw hm) (fun F σ H G0 G Γ α v w r s ee S cv cw q => by
    cases q with
    | int q => exact .inl ⟨_, _, cv.intE, cw.intE, .trans ee (goal_bl S ⟨_, rfl, q⟩)⟩
    | str q => exact .inr (.inl ⟨_, _, cv.strE, cw.strE, .trans ee (goal_bl S ⟨_, rfl, q⟩)⟩)
    | dat er es fx fy q => exact .inr <| .inr ⟨_, _, (cv.look S er).dp (D.fit_pl fx), (cw.look S es).dp (D.fit_pl fy), D.fit_sh fx, D.fit_sh fy, .trans ee (goal_bl S ⟨_, rfl, q⟩)⟩)
    (fun v w H Q1 Q2 f h => h.elim (fun ⟨i, j, e1, e2, q⟩ => .inl ⟨i, j, e1, e2, f _ _ q⟩) fun h => h.elim (fun ⟨i, j, e1, e2, q⟩ => .inr (.inl ⟨i, j, e1, e2, f _ _ q⟩)) fun ⟨i, j, e1, e2, s1, s2, q⟩ => .inr (.inr ⟨i, j, e1, e2, s1, s2, f _ _ q⟩)) h
/-- <, ≤, >, ≥ of ints -/
inductive RC2 (g : Int → Int → Bool) (Q : Bool → Gm → Prop) (Γ : Gm) : Rs → Rs → Prop
  | int {i j : Int} : Q (g i j) Γ → RC2 g Q Γ (.d (.int i)) (.d (.int j))
theorem ve_cmp {op : CmpOp} {g : Int → Int → Bool} (ho : OpR X (compareOp op) (rI0 fun i j => .bl (g i j))) (hm : behindInMarks op b = false) (h : VE X pa a Γ fun r Γ1 => VE X pa b Γ1 fun s Γ2 => RC2 g (qB Q) Γ2 r.fz s.fz) : VE X pa (.Compare a [op] [b] pos) Γ Q :=
  ve_two (R := fun r s Γ => RC2 g (qB Q) Γ r s) (pe_cmpR ho pe_tw pe_tw hm) (fun F σ H G0 G Γ α v w r s ee S cv cw q => by
    cases q with | int q => exact ⟨_, _, cv.intE, cw.intE, .trans ee (goal_bl S q)⟩) h
theorem vt_cmp {op : CmpOp} {g : Int → Int → Bool} {Q : Bool → Gm → Prop} (ho : OpR X (compareOp op) (rI0 fun i j => .bl (g i j))) (hm : behindInMarks op b = false) (h : VE X pa a Γ fun r Γ1 => VE X pa b Γ1 fun s Γ2 => RC2 g Q Γ2 r.fz s.fz) : VT X pa (.Compare a [op] [b] pos) Γ Q :=
  vt_icmp ho hm (h.mono fun r Γ1 h1 => h1.mono fun s Γ2 q => by
    generalize r.fz = r' at q
    generalize s.fz = s' at q
    cases q with | int q => exact ⟨_, _, rfl, rfl, q⟩)
/-- a[b] -/
theorem ix_dict (hu : X.A.units + 1 < cLine) : IxR X fun x y H Q => ∃ a v, x = .ref a ∧ DGet H a y (some v) ∧ Q v H := by
  intro value slice pins s σ H x y v u Q I rx ry h hs
  obtain ⟨a, w, rfl, g, q⟩ := h
  obtain rfl : v = Value.ref a := rx
  have hT := dict_typeIs I g
  have h2 : wpAny (model X.prog X.w) X.A (getItem (.ref a) u) (EP X pins σ Q) X.xe s := d_getItem hu I g ry fun w' s3 I3 rw' => ⟨w, H, I3, rw', q⟩
  unfold subscriptTail
  refine wpAny_bind ?_
  rw [getitemInPython_of_ne hT.not_modules]
  refine wpAny_bind (wpAny_specialOf hT PySem.F.slot_dict_getitem.lookup ?_)
  have fin : wpAny (model X.prog X.w) X.A (subscripted slice false (.ref a) u) (fun r s₃ => wpAny (model X.prog X.w) X.A (letTemporaryGo value (.ref a) r >>= fun _ => pure r) (EP X pins σ Q) X.xe s₃) X.xe s := by
    rw [hs]
    exact wpAny_operating (wpAny_mono h2 (fun r s₃ h₃ => wpAny_bind (wpAny_letTemporaryGo (wpAny_pure h₃))) fun _ _ x => x)
  first
    | exact wpAny_pure (wpAny_bind fin)
    | exact wpAny_bind (wpAny_pure (wpAny_bind fin))
    | exact wpAny_bind fin
theorem ixr_or {r1 r2 : R2} (h1 : IxR X r1) (h2 : IxR X r2) : IxR X fun v w H Q => r1 v w H Q ∨ r2 v w H Q := fun a b pins s σ H x y v u Q I rx ry h hs =>
  h.elim (fun h => h1 a b pins s σ H x y v u Q I rx ry h hs) (fun h => h2 a b pins s σ H x y v u Q I rx ry h hs)
inductive RAt (Q : Rs → Gm → Prop) (Γ : Gm) : Rs → Rs → Prop
  | seq {r : Rs} {ds : List D} {i : Int} {x : D} : sq Γ r = some ds → atI ds i = some x → Q (.d x) Γ → RAt Q Γ r (.d (.int i))
  | str {z : Str} {i : Int} {c : Nat} : z.length ≤ sizeLine → atI z.cps.toList i = some c → Q (.d (.str ⟨#[c]⟩)) Γ → RAt Q Γ (.d (.str z)) (.d (.int i))
  | dct {r : Rs} {ds : List (Key × D)} {y x : D} {k : Key} : rd Γ r = some (.dct ds) → kD y = some k → dv ds k = some x → Q (.d x) Γ → RAt Q Γ r (.d y)
theorem ve_at (hu : X.A.units + 1 < cLine) (h : VE X pa a Γ fun r Γ1 => VE X pa b Γ1 fun s Γ2 => RAt Q Γ2 r.fz s.fz) (hs : PlainIx b := by exact fun _ _ => rfl) : VE X pa (.Subscript a b pos) Γ Q :=
  ve_two (R := fun r s Γ => RAt Q Γ r s) (pe_ix (ixr_or ix_seq (ixr_or ix_str (ix_dict hu))) pe_tw pe_tw hs) (fun F σ H G0 G Γ α v w r s ee S cv cw q => by
    cases q with
    | seq hd hx q =>
      have ew := cw.intE
      subst ew
      obtain ⟨p, vs, rfl, hq, ra⟩ := cv.seq S hd
      obtain ⟨u, hu, ru⟩ := atI_re ra hx
      rcases hq with hq | hq
      · exact .inl (.inl ⟨p, vs, _, u, rfl, rfl, hq, hu, Goal.trans ee (goal_d S ru q)⟩)
      · exact .inl (.inr (.inl ⟨p, vs, _, u, rfl, rfl, hq, hu, Goal.trans ee (goal_d S ru q)⟩))
    | str hz hx q => exact .inr (.inl ⟨_, _, _, cv.strE, cw.intE, hz, hx, Goal.trans ee (goal_str S q)⟩)
    | dct hd ek hx q =>
      have ew := cw.lay.key ek
      subst ew
      obtain ⟨p, kvs, ev, hH, hk, ra⟩ := cv.dct S hd
      subst ev
      obtain ⟨u, hu', ru⟩ := (dv_re _ hk ra).1 _ hx
      exact .inr (.inr ⟨p, u, rfl, by rw [← hu']; exact DGet.k hH, Goal.trans ee (goal_d S ru q)⟩)) h
/-- the name in the i-th slot -/
theorem vv (i : Nat) {x : Str} {it : AV.It} (hi : Γ[i]? = some (some it)) (q : Q (match it with | .d x => .d x | .o _ => .s i) Γ) (hN : X.N[i]? = some x := by rfl) (hv : Vis X.env.scope x := by first | exact Or.inl rfl | exact Or.inr (Or.inl rfl) | exact Or.inr (Or.inr rfl))
  (hd : (x == ("__debug__" : Str)) = false := by decide) (hcd : (x == ("__classdict__" : Str)) = false := by decide) : VE X pa (.Name x pos) Γ Q := ve_var hN hv hd hcd hi q
/-- a store at o[b] -/
inductive RPut (P : Gm → Prop) (w : Rs) (Γ : Gm) : Rs → Rs → Prop
  | lst {i j : Nat} {ds : List D} {k : Int} {x : D} : w = .d x → Γ[i]? = some (some (.o (.l ds))) → ixN ds.length k = some j → P (Γ.set i (some (.o (.l (ds.set j x))))) → RPut P w Γ (.s i) (.d (.int k))
end
end AV
set_option Elab.async false
set_option linter.all false
set_option maxRecDepth 100000
set_option maxHeartbeats 4000000
namespace AV
open PySem PySem.Spec PyProof.Rows L2
/-! ## guards of the steps -/
section
variable {X : Cx} {pa : Pin} {e a b c o f : Expr} {es : List Expr} {Γ Γ' : Gm} {Q Q' : Rs → Gm → Prop} {QB : Bool → Gm → Prop} {QA : List Rs → Gm → Prop} {T : En} {pos p : Pos} {x : Str} {st : Stmt} {sts : List Stmt} {op : CmpOp} {bop : BoolOp} {o2 : Operator} {kws : List Keyword} {cn : Const} {k : Nat} {r : Rs} {QG : Gm → Prop}
theorem g_ve (h : VE X pa e Γ Q) : VE X pa e Γ Q := h
theorem g_vt (h : VT X pa e Γ QB) : VT X pa e Γ QB := h
theorem g_vw (h : VW X pa e Γ QB) : VW X pa e Γ QB := h
theorem g_va (h : VA X pa es Γ QA) : VA X pa es Γ QA := h
theorem g_vb (h : VB X pa sts Γ T) : VB X pa sts Γ T := h
theorem g_vs (h : VS X pa st Γ T) : VS X pa st Γ T := h
theorem g_vg (h : VG X pa e r Γ QG) : VG X pa e r Γ QG := h
theorem g_name (h : VE X pa (.Name x pos) Γ Q) : VE X pa (.Name x pos) Γ Q := h
theorem g_con (h : VE X pa (.Constant cn k pos) Γ Q) : VE X pa (.Constant cn k pos) Γ Q := h
theorem g_call (x : Str) (h : VE X pa (.Call (.Name x p) es [] pos) Γ Q) : VE X pa (.Call (.Name x p) es [] pos) Γ Q := h
theorem g_bin (h : VE X pa (.BinOp a o2 b pos) Γ Q) : VE X pa (.BinOp a o2 b pos) Γ Q := h
theorem g_cmp (h : VE X pa (.Compare a [op] [b] pos) Γ Q) : VE X pa (.Compare a [op] [b] pos) Γ Q := h
theorem g_tcmp (h : VT X pa (.Compare a [op] [b] pos) Γ QB) : VT X pa (.Compare a [op] [b] pos) Γ QB := h
theorem g_tbool (h : VT X pa (.BoolOp bop es pos) Γ QB) : VT X pa (.BoolOp bop es pos) Γ QB := h
/-- a store into a list -/
theorem vg_put {w : Rs} {P : Gm → Prop} (h : VE X pa o Γ fun r1 Γ1 => VE X pa b Γ1 fun r2 Γ2 => RPut P w.fz Γ2 r1.fz r2.fz)
    (ha : ∀ v, assign (.Subscript o b pos) X.env v = (do
      let ov ← holding [v] (eval o X.env)
      let iv ← holding [v, ov] (eval b X.env)
      standAt pos
      holding [v, ov, iv] (setItem ov iv v)
      release [v, ov, iv] []) := by intro _; rfl) : VG X pa (.Subscript o b pos) w Γ P :=
  vg_setL (h.mono fun r1 Γ1 h1 => h1.mono fun r2 Γ2 q => by
    generalize r1.fz = r1' at q
    generalize r2.fz = r2' at q
    cases q with | lst e1 e2 e3 q => exact ⟨_, _, _, _, _, rfl, rfl, e1, e2, e3, q⟩) ha
theorem g_stored {i : Nat} (h : stored Γ i r QG) : stored Γ i r QG := h
theorem st_d {i : Nat} {y : D} (h : QG (Γ.set i (some (.d y)))) : stored Γ i (.d y) QG := h
theorem st_n {i : Nat} {y : C} (h : QG (Γ.set i (some (.o y)))) : stored Γ i (.n y) QG := h
theorem g_set (h : VS X pa (.Assign [.Name x p] e pos) Γ T) : VS X pa (.Assign [.Name x p] e pos) Γ T := h
theorem g_put (h : VS X pa (.Assign [.Subscript a b p] e pos) Γ T) : VS X pa (.Assign [.Subscript a b p] e pos) Γ T := h
theorem g_aug (h : VS X pa (.AugAssign (.Name x p) o2 e pos) Γ T) : VS X pa (.AugAssign (.Name x p) o2 e pos) Γ T := h
theorem vs_put {p' : Pos} (h : VE X pa e Γ fun w Γ0 => VE X pa o Γ0 fun r1 Γ1 => VE X pa b Γ1 fun r2 Γ2 => RPut T.nx w.fz Γ2 r1.fz r2.fz)
    (ha : ∀ v, assign (.Subscript o b p') X.env v = (do
      let ov ← holding [v] (eval o X.env)
      let iv ← holding [v, ov] (eval b X.env)
      standAt p'
      holding [v, ov, iv] (setItem ov iv v)
      release [v, ov, iv] []) := by intro _; rfl) (hs : swapsWithSole [.Subscript o b p'] e pos.line X.env = pure false := by rfl) (hw : swappedStores [.Subscript o b p'] e X.env = pure none := by rfl)
    (h1 : (assignEach [.Subscript o b p'] X.env).map (·.2) = [assign (.Subscript o b p') X.env] := by rfl) : VS X pa (.Assign [.Subscript o b p'] e pos) Γ T :=
  vs_asg (h.mono fun w Γ0 h0 => vg_put h0 ha) hs hw h1
theorem vs_ife {u v : List Stmt} (h : VT X pa c Γ fun b Γ1 => (b = true → VB X pa u Γ1 T) ∧ (b = false → VB X pa v Γ1 T)) : VS X pa (.If c u v pos) Γ T := vs_if h
theorem at0 {α : Type} {x : α} {xs : List α} : atI (x :: xs) 0 = some x := atI_nat (j := 0) rfl
theorem at1 {α : Type} {x y : α} {xs : List α} : atI (x :: y :: xs) 1 = some y := atI_nat (j := 1) rfl
theorem at2 {α : Type} {x y z : α} {xs : List α} : atI (x :: y :: z :: xs) 2 = some z := atI_nat (j := 2) rfl
theorem at3 {α : Type} {x y z u : α} {xs : List α} : atI (x :: y :: z :: u :: xs) 3 = some u := atI_nat (j := 3) rfl
theorem at4 {α : Type} {x y z u t : α} {xs : List α} : atI (x :: y :: z :: u :: t :: xs) 4 = some t := atI_nat (j := 4) rfl
theorem put5 {P : Gm → Prop} {i : Nat} {w : D} {Γ : Gm} {x y z u t : D} {k : Int} {ds : List D} (h : Γ[i]? = some (some (.o (.l ds)))) (e : ds = [x, y, z, u, t]) (hk : 0 ≤ k) (hk2 : k < 5) (q : P (Γ.set i (some (.o (.l (ds.set k.toNat w)))))) : RPut P (.d w) Γ (.s i) (.d (.int k)) := by
  refine .lst rfl h ?_ q
  subst e
  unfold ixN
  simp [hk]
  omega
theorem plen_mk {ds : List D} (h : sq Γ r = some ds) (q : Q (.d (.int (ds.length : Nat))) Γ) : Plen Q r Γ := ⟨ds, h, q⟩
theorem pi1_mk {g : Int → Int} {i : Int} (q : Q (.d (.int (g i))) Γ) : PI1 g Q (.d (.int i)) Γ := ⟨i, rfl, q⟩
theorem psum_mk {ns : List Int} (h : sq Γ r = some (ns.map D.int)) (q : Q (.d (.int ns.sum)) Γ) : PSum Q r Γ := ⟨ns, h, q⟩
theorem ptupL {ds : List D} (h : rd Γ r = some (.lst ds)) (q : Q (.d (.tup ds)) Γ) : PTup Q r Γ := ⟨ds, .inl h, q⟩
theorem ptupT {ds : List D} (h : rd Γ r = some (.tup ds)) (q : Q (.d (.tup ds)) Γ) : PTup Q r Γ := ⟨ds, .inr h, q⟩
theorem plst_mk {ds : List D} (h : sq Γ r = some ds) (q : Q (.n (.l ds)) Γ) : PLst Q r Γ := ⟨ds, h, q⟩
theorem ft_ {A : Prop} : false = true → A := fun h => nomatch h
theorem tf_ {A : Prop} : true = false → A := fun h => nomatch h
theorem tt_ {A : Prop} (h : A) : true = true → A := fun _ => h
theorem ff_ {A : Prop} (h : A) : false = false → A := fun _ => h
theorem put_l {P : Gm → Prop} {i j : Nat} {w : D} {k : Int} {ds : List D} (h : Γ[i]? = some (some (.o (.l ds)))) (hj : ixN ds.length k = some j) (q : P (Γ.set i (some (.o (.l (ds.set j w)))))) : RPut P (.d w) Γ (.s i) (.d (.int k)) := .lst rfl h hj q
theorem g_plen (h : Plen Q r Γ) : Plen Q r Γ := h
theorem g_psum (h : PSum Q r Γ) : PSum Q r Γ := h
theorem g_ptup (h : PTup Q r Γ) : PTup Q r Γ := h
theorem g_plst (h : PLst Q r Γ) : PLst Q r Γ := h
theorem g_rat {s : Rs} (h : RAt Q Γ r s) : RAt Q Γ r s := h
theorem g_rput {s w : Rs} (h : RPut QG w Γ r s) : RPut QG w Γ r s := h
theorem g_rplus {s : Rs} (h : RPlus Q Γ r s) : RPlus Q Γ r s := h
theorem g_rsub {s : Rs} (h : RSub Q Γ r s) : RSub Q Γ r s := h
theorem g_rtimes {s : Rs} (h : RTimes Q Γ r s) : RTimes Q Γ r s := h
theorem g_rdiv {s : Rs} (h : RDivI Q Γ r s) : RDivI Q Γ r s := h
theorem g_rmod {s : Rs} (h : RModI Q Γ r s) : RModI Q Γ r s := h
theorem g_rpow {s : Rs} (h : RPowI Q Γ r s) : RPowI Q Γ r s := h
theorem g_rc2 {s : Rs} {g : Int → Int → Bool} (h : RC2 g QB Γ r s) : RC2 g QB Γ r s := h
theorem g_rq {s : Rs} {g : Bool → Bool} (h : RQ g QB Γ r s) : RQ g QB Γ r s := h
theorem g_pi1 {g : Int → Int} (h : PI1 g Q r Γ) : PI1 g Q r Γ := h
theorem g_nx (h : T.nx Γ) : T.nx Γ := h
theorem g_rt (h : T.rt r Γ) : T.rt r Γ := h
theorem vt_lt (h : VE X pa a Γ fun r Γ1 => VE X pa b Γ1 fun s Γ2 => RC2 (fun i j => decide (i < j)) QB Γ2 r.fz s.fz) : VT X pa (.Compare a [.Lt] [b] pos) Γ QB := vt_cmp op_lt (nomark _) h
theorem vt_le (h : VE X pa a Γ fun r Γ1 => VE X pa b Γ1 fun s Γ2 => RC2 (fun i j => decide (i ≤ j)) QB Γ2 r.fz s.fz) : VT X pa (.Compare a [.LtE] [b] pos) Γ QB := vt_cmp op_le (nomark _) h
theorem vt_gt (h : VE X pa a Γ fun r Γ1 => VE X pa b Γ1 fun s Γ2 => RC2 (fun i j => decide (j < i)) QB Γ2 r.fz s.fz) : VT X pa (.Compare a [.Gt] [b] pos) Γ QB := vt_cmp op_gt (nomark _) h
theorem vt_ge (h : VE X pa a Γ fun r Γ1 => VE X pa b Γ1 fun s Γ2 => RC2 (fun i j => decide (j ≤ i)) QB Γ2 r.fz s.fz) : VT X pa (.Compare a [.GtE] [b] pos) Γ QB := vt_cmp op_ge (nomark _) h
theorem ve_lt (h : VE X pa a Γ fun r Γ1 => VE X pa b Γ1 fun s Γ2 => RC2 (fun i j => decide (i < j)) (qB Q) Γ2 r.fz s.fz) : VE X pa (.Compare a [.Lt] [b] pos) Γ Q := ve_cmp op_lt (nomark _) h
theorem ve_le (h : VE X pa a Γ fun r Γ1 => VE X pa b Γ1 fun s Γ2 => RC2 (fun i j => decide (i ≤ j)) (qB Q) Γ2 r.fz s.fz) : VE X pa (.Compare a [.LtE] [b] pos) Γ Q := ve_cmp op_le (nomark _) h
theorem ve_gt (h : VE X pa a Γ fun r Γ1 => VE X pa b Γ1 fun s Γ2 => RC2 (fun i j => decide (j < i)) (qB Q) Γ2 r.fz s.fz) : VE X pa (.Compare a [.Gt] [b] pos) Γ Q := ve_cmp op_gt (nomark _) h
theorem ve_ge (h : VE X pa a Γ fun r Γ1 => VE X pa b Γ1 fun s Γ2 => RC2 (fun i j => decide (j ≤ i)) (qB Q) Γ2 r.fz s.fz) : VE X pa (.Compare a [.GtE] [b] pos) Γ Q := ve_cmp op_ge (nomark _) h
theorem g_qb {v : Bool} (h : Q (.d (.bl v)) Γ) : qB Q v Γ := h
theorem rt_d {its : List AV.It} {R : Rs → List AV.It → Prop} {y : D} (h : R (.d y) (outI its Γ)) : (endOf ⟨fun _ => none, []⟩ its R).rt (.d y) Γ := h
theorem rt_n {its : List AV.It} {R : Rs → List AV.It → Prop} {y : C} (h : R (.n y) (outI its Γ)) : (endOf ⟨fun _ => none, []⟩ its R).rt (.n y) Γ := h
theorem rt_s {its : List AV.It} {R : Rs → List AV.It → Prop} {y : C} {i : Nat} (hp : pa i = none) (hi : Γ[i]? = some (some (.o y))) (h : R (.n y) (outI its Γ)) : (endOf pa its R).rt (.s i) Γ := ⟨hp, y, hi, h⟩
end
end AV
set_option Elab.async false
set_option linter.all false
set_option maxRecDepth 100000
set_option maxHeartbeats 4000000
namespace AV
open PySem PySem.Spec PyProof.Rows L2
/-! ## enumerate over a tuple -/
/-- the tuple at a, each item in a new pair -/
def IteT (K : PySem.W.Frag) (a : Addr) : L2.It :=
  ⟨fun i H => ∃ (xs : List V) (x : V), SqT K H a xs ∧ xs[i]? = some x, fun i H v H' => ∃ T x, v = .ref T ∧ H T = none ∧ H' = upd H T (.tup [.int (i : Nat), x]) ∧ ∀ xs, SqT K H a xs → xs[i]? = some x, fun i H => ∃ xs : List V, SqT K H a xs ∧ xs.length ≤ i⟩
theorem tuple_inj {X : Cx} {pins : List (Addr × Obj)} {σ : L2.St} {H : Hp} {s : Shared} {a : Addr} {xs ys : List V} (I : Inv X pins σ H s) (h1 : SqT X.K H a xs) (h2 : SqT X.K H a ys) : xs = ys := by
  obtain ⟨its, rv, p, hz⟩ := I.tuple h1
  obtain ⟨its2, rv2, p2, hz2⟩ := I.tuple h2
  obtain ⟨o, e1, c1, n1, d1⟩ := p
  obtain ⟨o2, e2, c2, n2, d2⟩ := p2
  rw [e1] at e2; cases e2
  rw [d1] at d2
  have e : its = its2 := by injection d2 with d _; simpa using d
  subst e
  exact rv.inj rv2
theorem enumT_end {prog : Program} {w : World} {A : Around} {E : Value → Shared → Prop} {s : Shared} {e it l : Addr} {i : Nat} {items : Array Value} {old : Value} {Q : Option Value → Shared → Prop} (hh : A.handled = none)
    (he : IsEnum s.heap e it i old) (hit : s.heap.IsTupleIter it l i) (hl : s.heap.IsTuple l items) (hx : items[i]? = none)
    (hQ : ∀ h', Heap.ExtBut it s.heap h' → Q none { s with heap := h' }) : wpAny (model prog w) A (pyNext (.ref e)) Q E s := by
  have hT : s.TypeIs (.ref e) "enumerate" := ⟨_, he, rfl⟩
  unfold pyNext
  refine wpAny_bind (wpAny_attempt (wpAny_callSpecial?_slot (name := Str.ofString "__next__") hT PySem.F.slot_enumerate_next
    (wpAny_call_entry PySem.F.slot_enumerate_next hT PySem.F.entry_enumerate_next ?_ (PySem.F.args_enumerate_next_1 _))))
  show wpAny _ _ (field (.ref e) 2 >>= _) _ _ _
  refine wpAny_bind (wpAny_field he rfl (x := .ref it) rfl ?_)
  refine wpAny_bind (wpAny_nextOf_tuple_end (A := A.in1) hh hit hl hx fun h' x he' hx' => ?_)
  obtain ⟨o, ho, hc⟩ := hx'
  refine wpAny_bind (wpAny_isInstance (T := "StopIteration") (b := true) ⟨o, ho, hc⟩ isSubtype_stop ?_)
  exact wpAny_pure (hQ _ he')
theorem meets_enum1 {v : Value} {o : Obj} {H : Heap → Prop} (B : Begins v o H) :
    Meets (Builtin.«enumerate.__new__» ⟨[.type "enumerate", v], []⟩) (fun _ R s => H s.heap ∧
      R (.ok (.ret (.ref (s.heap.push o).objs.size))) { s with heap := (s.heap.push o).push { cls := .type "enumerate", data := .fields #[.none, .bool false, .ref s.heap.objs.size, rawInt 0, .none, .none] } }) :=
  .of_wp fun prog w A R s h => by
    obtain ⟨hp, g, d, tk, os⟩ := s; obtain ⟨h1, h⟩ := h
    have hsub := sub_enumerate
    have q1 : ∀ {A' : Around} {E : Value → Shared → Prop} {Q : Value → Shared → Prop}, Q (.ref hp.objs.size) ⟨hp.push o, g, d, tk, os⟩ → wpAny (model prog w) A' (pyIter v) Q E ⟨hp, g, d, tk, os⟩ :=
      fun q => B.iter prog w _ _ ⟨hp, g, d, tk, os⟩ _ h1 q
    wp_walk using q1
    refine wpAny_stack_any fun st => wpAny_pure ?_
    split
    · rename_i c _ _ _ _ _
      cases (c == Value.type "enumerate")
      · wp_walk using q1
        exact ⟨_, rfl, h⟩
      · wp_walk using q1
        exact ⟨_, rfl, h⟩
    · wp_walk using q1
      exact ⟨_, rfl, h⟩
theorem turn_enumT {P : Program} {w : World} {K : PySem.W.Frag} {elts : List Expr} {kk : Nat} {tpos : Pos} (a e it : Addr) :
    Turn P w K (.Tuple elts kk tpos) (IteT K a) [e, it] e (fun i h => (∃ old, IsEnum h e it ((i : Nat) : Int) old) ∧ h.IsTupleIter it a i ∧ e ≠ it ∧ e ≠ a ∧ a ≠ it) where
  mem := by simp
  obj := fun i h st b hb => by
    obtain ⟨⟨old, he⟩, ⟨o, ho, hc, hd⟩, _⟩ := st
    have e' : b = e ∨ b = it := by simpa using hb
    rcases e' with z | z
    · rw [z]; exact ⟨_, he, fun v q => nomatch q⟩
    · rw [z]; exact ⟨o, ho, fun v q => by rw [hd] at q; cases q⟩
  keep := fun i h h' st k => let ⟨⟨old, he⟩, hi, hne⟩ := st; ⟨⟨old, k e (by simp) _ he⟩, hi.at fun o q => k it (by simp) o q, hne⟩
  item := by
    intro X hP hw hK hc i pins s σ H E I hf st hg
    subst hP hw hK
    obtain ⟨⟨old, he⟩, hit, hne, hea, hai⟩ := st
    obtain ⟨xs, x, hq, hx⟩ := hg
    obtain ⟨its, rv, p, hz⟩ := I.tuple hq
    obtain ⟨u, hu, ru⟩ := rv.get hx
    have hel : e < s.heap.objs.size := Heap.lt_size he
    have hil : it < s.heap.objs.size := by obtain ⟨_, q, _⟩ := hit; exact Heap.lt_size q
    have hlt : i < its.toArray.size := by
      have := (List.getElem?_eq_some_iff.mp hu).1
      simpa using this
    refine wpAny_pyNext_enum_itemD (Draws.tuple (A := X.A.in1) (I.ok.hd hc) it a hai its.toArray) he ⟨hit, p⟩ hlt hne (by simp [hne, hea]) fun y h' tk hP ho hs' hT hsz hk => ?_
    have ey : y = u := by
      have hP' : its.toArray[i]? = some y := hP
      rw [List.getElem?_toArray, hu] at hP'
      exact (Option.some.inj hP').symm
    subst ey
    refine ⟨_, rfl, wpAny_letOwnedTupleGo_enum (s := { s with heap := h', toks := tk + 1 }) ho fun h'' he' sb => ?_⟩
    have hT2 : h''.get? s.heap.objs.size = some { cls := .type "tuple", data := .seq #[.int i tk, y] } := (sb.2 _ (Nat.ne_of_gt hel)).trans hT
    have new : ObjOk X.prog X.w (upd H s.heap.objs.size (.tup [.int (i : Nat), x])) h'' s.heap.objs.size (.tup [.int (i : Nat), x]) :=
      ⟨by show 2 ≤ sizeLine; decide, [.int i tk, y], .cons ⟨_, rfl⟩ (.cons ru .nil), ⟨_, hT2, rfl, _, rfl⟩⟩
    have I1 : Inv X pins σ (upd H s.heap.objs.size (.tup [.int (i : Nat), x])) { s with heap := h'', toks := tk + 1 } :=
      I.turnedNew (ch := [e, it]) (fun b ob hb q => (sb.2 b (fun z => hb (by simp [z]))).trans (hk b ob (fun z => hb (by simp [z])) (fun z => hb (by simp [z])) q)) hf (Nat.le_refl _) new
    refine ⟨.ref s.heap.objs.size, _, I1, rfl, ⟨_, x, rfl, I.hok.fresh (Nat.le_refl _), rfl, fun ys hy => by rw [tuple_inj I hy hq]; exact hx⟩, ⟨⟨y, ?_⟩, hs'.1.at fun o q => (sb.2 it (Ne.symm hne)).trans q, hne, hea, hai⟩, fun b hb => ?_⟩
    · have e1 : ((i + 1 : Nat) : Int) = (i : Int) + 1 := by omega
      rw [e1]; exact he'
    · have hb' : b < s.heap.objs.size := by
        have e' : b = e ∨ b = it := by simpa using hb
        rcases e' with z | z
        · rw [z]; exact hel
        · rw [z]; exact hil
      rw [upd_ne (Nat.ne_of_lt hb')]
      exact (hf b hb).1
  done := by
    intro X hP hw hK hc i pins s σ H E I hf st hg
    subst hP hw hK
    obtain ⟨⟨old, he⟩, hit, hne, hea, hai⟩ := st
    obtain ⟨xs, hq, hx⟩ := hg
    obtain ⟨its, rv, p, hz⟩ := I.tuple hq
    obtain ⟨f0, f1, f2, f3, f4, f5⟩ := hf it (by simp)
    have hl := rv.length
    -- the tuple's iterator stands at its end or behind it
    exact enumT_end (I.ok.hd hc) he hit p (by simp; omega) fun h' eb => ⟨rfl, I.turned (t' := s.toks) (fun b o hb q => eb b o hb q) f0 f1 f3 f4 f5⟩
  self := fun A i s Q E st h => let ⟨⟨_, he⟩, _⟩ := st; wpAny_pyIter_enum he h
def iEnumT (K : PySem.W.Frag) (ta : TA) : TI := fun σ H R => ta σ H fun vs H1 => ∃ a xs, vs = [.ref a] ∧ SqT K H1 a xs ∧ R (IteT K a) H1
theorem pi_enumT {X : Cx} {e : Expr} {ta : TA} {p pos tpos : Pos} {elts : List Expr} {kk : Nat} (hg : Gl X "enumerate") (hm : X.mg "enumerate" = none) (ha : PA X [e] ta) (hs : starEach [e] X.env = [(false, eval e X.env)] := by rfl) :
    PI X (.Tuple elts kk tpos) (.Call (.Name "enumerate" p) [e] [] pos) (iEnumT X.K ta) := by
  refine ⟨fun pins s σ H R I h => ?_⟩
  refine Call_ (ld_blt I hg hm boot_enumerate (PyProof.Rows.callWith_type1 (thn (ha.run pos pins s σ H _ I h) fun us s1 ⟨vs, H1, I1, r1, q1⟩ => ?_) hs rfl))
  obtain ⟨a, xs, ex, hq, q⟩ := q1
  subst ex
  cases r1 with
  | cons r rr =>
    cases rr
    cases r
    obtain ⟨its, rv, p', hz⟩ := I1.tuple hq
    refine callType_new PySem.F.called_enumerate (by decide) (PySem.F.typeCall_enumerate_1 _) (PySem.F.newCall_enumerate_1 _) (fun obj => PySem.F.args_object_init_2 obj _) PySem.F.entry_enumerate_new
      (meets_enum1 (begins_tuple a its.toArray)) ⟨p', ?_⟩
    have hz1 : (s1.heap.push { cls := .type "tuple_iterator", data := .fields #[.ref a, .int 0 0] }).objs.size = s1.heap.objs.size + 1 := Heap.size_push ..
    show _ ∧ _
    rw [hz1]
    have he : IsEnum ((s1.heap.push { cls := .type "tuple_iterator", data := .fields #[.ref a, .int 0 0] }).push { cls := .type "enumerate", data := .fields #[.none, .bool false, .ref s1.heap.objs.size, rawInt 0, .none, .none] }) (s1.heap.objs.size + 1) s1.heap.objs.size 0 .none := by
      have := Heap.get?_push_size (s1.heap.push { cls := .type "tuple_iterator", data := .fields #[.ref a, .int 0 0] }) (o := { cls := .type "enumerate", data := .fields #[.none, .bool false, .ref s1.heap.objs.size, rawInt 0, .none, .none] }) rfl
      rw [hz1] at this; exact this
    refine ⟨⟨_, he, rfl⟩, wpAny_pyIter_enum he ?_⟩
    have I2 : Inv X pins σ H1 { s1 with heap := (s1.heap.push { cls := .type "tuple_iterator", data := .fields #[.ref a, .int 0 0] }).push { cls := .type "enumerate", data := .fields #[.none, .bool false, .ref s1.heap.objs.size, rawInt 0, .none, .none] } } := I1.kept (t' := s1.toks) fun b o x => Heap.get?_push_of_some _ (Heap.get?_push_of_some _ x)
    have hal : a < s1.heap.objs.size := by obtain ⟨o, ho, _⟩ := p'; exact Heap.lt_size ho
    have hit : (s1.heap.push { cls := .type "tuple_iterator", data := .fields #[.ref a, .int 0 0] }).push { cls := .type "enumerate", data := .fields #[.none, .bool false, .ref s1.heap.objs.size, rawInt 0, .none, .none] } |>.IsTupleIter s1.heap.objs.size a 0 :=
      ⟨_, Heap.get?_push_of_some _ (Heap.get?_push_size _ rfl), rfl, rfl⟩
    refine ⟨s1.heap.objs.size + 1, [s1.heap.objs.size + 1, s1.heap.objs.size], _, _, H1, rfl, I2, turn_enumT a (s1.heap.objs.size + 1) s1.heap.objs.size, ⟨⟨.none, he⟩, hit, Nat.succ_ne_self _, Nat.ne_of_gt (Nat.lt_succ_of_lt hal), Nat.ne_of_lt hal⟩, fun b hb => ?_, q⟩
    have e' : b = s1.heap.objs.size + 1 ∨ b = s1.heap.objs.size := by simpa using hb
    have hle : s1.heap.objs.size ≤ b := by
      rcases e' with z | z
      · rw [z]; exact Nat.le_add_right _ _
      · rw [z]; exact Nat.le_refl _
    exact I1.fpOk hle (I1.hok.fresh hle)
theorem wk_enumT {K : PySem.W.Frag} {G : Hp} {a : Addr} {vs : List V} {ds : List D} (h : ∀ H, Ex G H → SqT K H a vs) (r : ReA K G vs ds) : Wk K (IteT K a) G (enD ds) := fun i H e => by
  have hq := h H e
  have hl : (enD ds).length = ds.length := by unfold enD; simp
  have hl2 := r.length
  refine ⟨fun hi => ?_, fun hi => ⟨vs, hq, by omega⟩, fun x H' hi y => ?_⟩
  · rw [hl] at hi
    obtain ⟨v, hv, _⟩ := r.get (List.getElem?_eq_getElem hi)
    exact ⟨vs, v, hq, hv⟩
  · rw [hl] at hi
    obtain ⟨t, x2, ex, nt, eh, f2⟩ := y
    obtain ⟨d, hd, rd⟩ := r.getV (f2 vs hq)
    refine ⟨.tup [.int (i : Nat), d], ?_, .inr ⟨t, _, _, ex, nt, eh, rfl, .cons (.int _) (.one rd)⟩⟩
    unfold enD
    rw [List.getElem?_mapIdx, hd]; rfl
section
variable {X : Cx} {pa : Pin} {e a b o : Expr} {es : List Expr} {Γ Γ' : Gm} {Q Q' : Rs → Gm → Prop} {T : En} {pos p1 p2 apos cpos : Pos}
theorem vi_enumT {p tpos : Pos} {elts : List Expr} {kk : Nat} {Q : List D → Gm → Prop} (hg : Gl X "enumerate") (hm : X.mg "enumerate" = none) (h : VE X pa e Γ fun r Γ1 => QTup (fun ds => Q (enD ds)) r.fz Γ1) (hs : starEach [e] X.env = [(false, eval e X.env)] := by rfl) :
    VI X pa (.Tuple elts kk tpos) (.Call (.Name "enumerate" p) [e] [] pos) Γ Q := ⟨_, pi_enumT hg hm pa_tw hs, fun F σ H G S R k => by
  refine (va_cons (Q := fun rs Γ1 => ∃ r, rs = [r] ∧ QTup (fun ds => Q (enD ds)) r Γ1) (h.mono fun r Γ1 q => va_nil ⟨_, rfl, q⟩) hs F σ H G S).mono fun vs H1 ⟨G1, Γ1, rs, e1, ⟨α, S1⟩, cv, r, er, x, ds, exr, ex, q⟩ => ?_
  subst er; subst exr
  obtain ⟨v, rfl, c⟩ := cv.one
  have h1 : Re X.K G1 v x := c
  rcases ex with ex | ex
  · subst ex
    cases h1 with
    | tup ha hr => exact ⟨_, _, rfl, SqT.of (S1.ext _ _ ha), k _ H1 G1 Γ1 _ e1 ⟨α, S1⟩ q (wk_enumT (fun H e => SqT.of (e _ _ ha)) hr)⟩
  · subst ex
    cases h1 with
    | ktp ha hr => exact ⟨_, _, rfl, S1.ext.sqt ha, k _ H1 G1 Γ1 _ e1 ⟨α, S1⟩ q (wk_enumT (fun H e => e.sqt ha) hr)⟩⟩
end
/-! ## t[::-1] of a tuple -/
section
variable {prog : Program} {w : World} {A : Around} {E : Value → Shared → Prop} {s : Shared}
theorem sliceApplied_rev {sl : Addr} {n : Nat} {u : Tok} {Q : Int × Int × Nat → Shared → Prop} (hs : s.heap.IsSliceOf sl .none .none (.int (-1) u)) (h : Q ((n : Int) - 1, -1, n) s) :
    wpAny (model prog w) A (Builtin.Slice.sliceApplied (.ref sl) (pure (n : Int))) Q E s := by
  obtain ⟨os, hos, hcs, hds⟩ := id hs
  unfold Builtin.Slice.sliceApplied Builtin.Slice.sliceFields
  refine wpAny_bind (wpAny_bind (wpAny_field hos hds (x := .none) rfl (wpAny_bind (wpAny_field hos hds (x := .none) rfl (wpAny_bind (wpAny_field hos hds (x := .int (-1) u) rfl (wpAny_pure ?_)))))))
  refine wpAny_bind (slicePart_int ?_)
  show wpAny _ _ (if ((-1 : Int) == 0) = true then _ else _) _ _ s
  rw [if_neg (by decide)]
  refine wpAny_bind (slicePart_none (wpAny_bind (slicePart_none (wpAny_bind (wpAny_pure ?_)))))
  show wpAny _ _ (match Builtin.Slice.sliceAdjust none none (-1) (n : Int) with | (lo, hi) => pure (lo, (-1 : Int), Builtin.Slice.slicePlaces lo hi (-1))) _ _ s
  have e1 : Builtin.Slice.sliceAdjust none none (-1) (n : Int) = ((n : Int) - 1, -1) := by
    unfold Builtin.Slice.sliceAdjust
    simp
  rw [e1]
  show wpAny _ _ (pure ((n : Int) - 1, (-1 : Int), Builtin.Slice.slicePlaces ((n : Int) - 1) (-1) (-1))) _ _ s
  have e2 : Builtin.Slice.slicePlaces ((n : Int) - 1) (-1) (-1) = n := by
    unfold Builtin.Slice.slicePlaces
    have h1 : ¬ ((-1 : Int) > 0) := by omega
    simp only [h1, if_false]
    split <;> (try simp) <;> omega
  rw [e2]
  exact wpAny_pure h
theorem fm_map {f : Nat → Option Value} {g : Nat → Value} : ∀ l : List Nat, (∀ k ∈ l, f k = some (g k)) → l.filterMap f = l.map g
  | [], _ => rfl
  | k :: l, h => by rw [List.filterMap_cons, h k List.mem_cons_self, List.map_cons, fm_map l fun j hj => h j (List.mem_cons_of_mem _ hj)]
theorem pick_rev (xs : Array Value) : ((List.range xs.size).filterMap fun (k : Nat) => xs[((xs.size : Int) - 1 + (k : Int) * (-1)).toNat]?).toArray = xs.toList.reverse.toArray := by
  congr 1
  rw [fm_map (g := fun k => (xs[((xs.size : Int) - 1 + (k : Int) * (-1)).toNat]?).getD .none) _ fun k hk => by
    have hk' : k < xs.size := List.mem_range.mp hk
    have h2 : ((xs.size : Int) - 1 + (k : Int) * (-1)).toNat = xs.size - 1 - k := by omega
    have h3 : xs.size - 1 - k < xs.size := by omega
    rw [h2, Array.getElem?_eq_getElem h3]; rfl]
  apply List.ext_getElem?
  intro i
  rw [List.getElem?_map]
  by_cases hi : i < xs.size
  · have h2 : ((xs.size : Int) - 1 + (i : Int) * (-1)).toNat = xs.size - 1 - i := by omega
    have h3 : xs.size - 1 - i < xs.size := by omega
    rw [List.getElem?_range hi, List.getElem?_reverse (by simpa using hi), Option.map_some, h2, Array.getElem?_eq_getElem h3, Array.length_toList, Array.getElem?_toList, Array.getElem?_eq_getElem h3]; rfl
  · rw [List.getElem?_eq_none (by simpa using hi), List.getElem?_eq_none (by simpa using hi)]; rfl
theorem getItem_tuple_rev {t sl : Addr} {items : Array Value} {u : Tok} {Q : Value → Shared → Prop} (ht : IsTup s.heap t items) (hs : s.heap.IsSliceOf sl .none .none (.int (-1) u))
    (h : Q (.ref s.heap.objs.size) { s with heap := s.heap.push { cls := .type "tuple", data := .seq items.toList.reverse.toArray } })
    (hsz : items.size ≤ sizeLine) : wpAny (model prog w) A (getItem (.ref t) (.ref sl)) Q E s := by
  have hdrop : sizeOk (.seq items.toList.reverse.toArray) := by
    show items.toList.reverse.toArray.size ≤ sizeLine
    rw [List.size_toArray, List.length_reverse, Array.length_toList]
    omega
  obtain ⟨os, hos, hcs, hds⟩ := id hs
  have hTs : s.TypeIs (.ref sl) "slice" := ⟨os, hos, hcs⟩
  unfold getItem
  try with_reducible refine wpAny_holding ?_
  first | refine wpAny_bind (wpAny_pure ?_) | skip
  refine wpAny_bind (wpAny_sequenceKey ht.typeIs (by decide) ?_)
  refine wpAny_bind (wpAny_callSpecial?_slot (name := Str.ofString "__getitem__") ht.typeIs slot_tuple_getitem
    (wpAny_call_entry slot_tuple_getitem ht.typeIs entry_tuple_getitem ?_ (args_tuple_getitem _ _)))
  show wpAny _ _ (Builtin.Tuple.tupleItemsOf (.ref t) >>= _) _ _ s
  refine wpAny_bind (tupleItemsOf_ ht ?_)
  refine wpAny_bind (wpAny_typeOf hTs ?_)
  rw [if_pos (by decide)]
  refine wpAny_bind (sliceApplied_rev hs ?_)
  have hno : ¬ (((items.size : Int) - 1 == 0 && (-1 : Int) == 1 && items.size == items.size) = true) := by simp
  show wpAny _ _ (if ((items.size : Int) - 1 == 0 && (-1 : Int) == 1 && items.size == items.size) = true then _ else _) _ _ s
  rw [if_neg hno, pick_rev items]
  first
    | exact wpAny_bind (m := Builtin.Tuple.tupleExact _) (wpAny_newObj_type (wpAny_pure ⟨_, rfl, wpAny_pure h⟩) hdrop)
    | exact wpAny_bind (m := Builtin.Tuple.tupleExact _) (wpAny_newObj_type (wpAny_bind (wpAny_pure (wpAny_pure ⟨_, rfl, wpAny_pure h⟩))) hdrop)
    | exact wpAny_bind (wpAny_bind (m := Builtin.Tuple.tupleExact _) (wpAny_newObj_type (wpAny_pure (wpAny_pure ⟨_, rfl, wpAny_pure h⟩)) hdrop))
end
section
variable {X : Cx} {pa : Pin} {e a b o : Expr} {es : List Expr} {Γ Γ' : Gm} {Q Q' : Rs → Gm → Prop} {T : En} {pos p1 p2 p3 apos cpos : Pos} {k : Nat}
def tRevA (K : PySem.W.Frag) (te : TE) : TE := fun σ H Q => te σ H fun x H1 => (∃ a xs, x = .ref a ∧ SqL K H1 a xs ∧ ∀ p, H1 p = none → Q (.ref p) (upd H1 p (.lst xs.reverse))) ∨
  ∃ a xs, x = .ref a ∧ SqT K H1 a xs ∧ ∀ p, H1 p = none → Q (.ref p) (upd H1 p (.tup xs.reverse))
theorem pe_revA {te : TE} (he : PE X e te) : PE X (.Subscript e (.Slice none none (some (.UnaryOp .USub (.Constant (.int 1) k p1) p2)) p3) pos) (tRevA X.K te) := by
  refine ⟨fun pins s σ H Q I h => ?_⟩
  refine Subscript_ (thn (he.run pins s σ H _ I h) fun v s1 ⟨x, H1, I1, r1, q1⟩ => ?_)
  have hst : PO X (some (.UnaryOp .USub (.Constant (.int 1) k p1) p2)) (tPart (tUn (rU fun i => .int (-i)) (tC (.int 1)))) := po_some (pe_un un_neg pe_int)
  refine wpAny_Slice (thn (po_none.run pins s1 σ H1 (fun o H2 => o = none ∧ H2 = H1) I1 ⟨rfl, rfl⟩) fun vl s2 ⟨l, H2, I2, pl, el, e2⟩ => ?_)
  subst el e2
  refine thn (po_none.run pins s2 σ H2 (fun o H3 => o = none ∧ H3 = H2) I2 ⟨rfl, rfl⟩) fun vu s3 ⟨u, H3, I3, pu, eu, e3⟩ => ?_
  subst eu e3
  refine thn (hst.run pins s3 σ H3 (fun o H4 => o = some (-1) ∧ H4 = H3) I3 ⟨1, rfl, -1, rfl, rfl, rfl⟩) fun vs s4 ⟨o, H4, I4, ps, eo, e4⟩ => ?_
  subst eo e4
  have I5 : Inv X pins σ H4 { s4 with heap := s4.heap.push { cls := .type "slice", data := .fields #[vl, vu, vs] } } := I4.kept (t' := s4.toks) fun b ob q => Heap.get?_push_of_some _ q
  rcases q1 with q1 | q1
  · obtain ⟨a, xs, ex, hx, q⟩ := q1
    subst ex
    cases r1
    obtain ⟨its, r, ht, hz⟩ := I5.list hx
    have hlen := r.length
    show wpAny (model X.prog X.w) X.A (subscriptTail e (.Slice none none (some (.UnaryOp .USub (.Constant (.int 1) k p1) p2)) p3) (.ref a) (.ref s4.heap.objs.size)) (EP X pins σ Q) X.xe { s4 with heap := s4.heap.push { cls := .type "slice", data := .fields #[vl, vu, vs] } }
    refine tail_any (ops := [.ref a, .ref s4.heap.objs.size]) ht.isList.typeIs (PySem.slot_list_getitem.lookup) ?_ (by with_unfolding_all rfl)
    refine wpAny_getItem_list_slice ht.isList (Heap.IsSliceOf.new _ vl vu vs) pl pu ps (by decide) ?_ (by rw [List.size_toArray]; omega)
    rw [PySem.W.krv_pick]
    refine ⟨.ref _, _, I5.laid (t' := s4.toks) (o := .lst xs.reverse) (fun b ob q => Heap.get?_push_of_some _ q) (Nat.le_refl _) ?_, rfl, q _ (I5.hok.fresh (Nat.le_refl _))⟩
    exact ⟨by rw [List.length_reverse]; exact hz, _, 0, r.reverse, Heap.get?_push_size _ rfl⟩
  · obtain ⟨a, xs, ex, hx, q⟩ := q1
    subst ex
    cases r1
    obtain ⟨its, r, ht, hz⟩ := I5.tuple hx
    have hlen := r.length
    show wpAny (model X.prog X.w) X.A (subscriptTail e (.Slice none none (some (.UnaryOp .USub (.Constant (.int 1) k p1) p2)) p3) (.ref a) (.ref s4.heap.objs.size)) (EP X pins σ Q) X.xe { s4 with heap := s4.heap.push { cls := .type "slice", data := .fields #[vl, vu, vs] } }
    refine tail_any (ops := [.ref a, .ref s4.heap.objs.size]) ht.typeIs (PyProof.Rows.slot_tuple_getitem.lookup) ?_ (by with_unfolding_all rfl)
    have el : vl = .none := by cases pl; rfl
    have eu : vu = .none := by cases pu; rfl
    obtain ⟨tk, es⟩ : ∃ tk, vs = .int (-1) tk := by cases ps; exact ⟨_, rfl⟩
    subst el; subst eu; subst es
    refine getItem_tuple_rev ht (Heap.IsSliceOf.new _ .none .none (.int (-1) tk)) ?_ (by rw [List.size_toArray]; omega)
    refine ⟨.ref _, _, I5.laid (t' := s4.toks) (o := .tup xs.reverse) (fun b ob q => Heap.get?_push_of_some _ q) (Nat.le_refl _) ?_, rfl, q _ (I5.hok.fresh (Nat.le_refl _))⟩
    refine ⟨by rw [List.length_reverse]; exact hz, _, r.reverse, ⟨_, Heap.get?_push_size _ rfl, rfl, _, rfl⟩⟩
inductive PRevA (Q : Rs → Gm → Prop) (r : Rs) (Γ : Gm) : Prop
  | lst {ds : List D} : rd Γ r = some (.lst ds) → Q (.n (.l ds.reverse)) Γ → PRevA Q r Γ
  | tup {ds : List D} : rd Γ r = some (.tup ds) → Q (.d (.tup ds.reverse)) Γ → PRevA Q r Γ
theorem ve_rev (h : VE X pa a Γ fun r Γ1 => PRevA Q r.fz Γ1) : VE X pa (.Subscript a (.Slice none none (some (.UnaryOp .USub (.Constant (.int 1) k p1) p2)) p3) pos) Γ Q :=
  ve_of (pe_revA pe_tw) fun F σ H G S => by
    refine (h F σ H G S).mono fun v H1 ⟨G1, Γ1, r, e1, S1, q⟩ => ?_
    obtain ⟨G2, e2, S2⟩ := S1.fz
    have cv := S2.cv
    obtain ⟨α, S3, _⟩ := S2
    cases q with
    | lst hd q =>
      obtain ⟨p, vs, rfl, hq, ra⟩ := cv.lst S3 hd
      exact .inl ⟨p, vs, rfl, SqL.of hq, fun l hl => Goal.trans (e1.trans e2) (goal_l S3 hl ra.reverse q)⟩
    | tup hd q =>
      obtain ⟨p, vs, rfl, hq, ra⟩ := cv.tup S3 hd
      exact .inr ⟨p, vs, rfl, SqT.of (S3.ext _ _ hq), fun l hl => Goal.trans (e1.trans e2) (goal_t S3 hl ra.reverse q)⟩
end
end AV
set_option Elab.async false
set_option linter.all false
set_option maxRecDepth 100000
set_option maxHeartbeats 4000000
namespace AV
open PySem PySem.Spec PyProof.Rows L2
/-! ## plain facts on data -/
theorem pys_ints : ∀ ns : List Int, D.pys (ns.map D.int) = ns.map PyData.int
  | [] => rfl
  | n :: ns => by rw [List.map_cons, D.pys, pys_ints ns]; rfl
theorem pls_ints : ∀ ns : List Int, D.pls (ns.map D.int) = true
  | [] => rfl
  | n :: ns => by rw [List.map_cons, D.pls, pls_ints ns]; rfl
theorem canLay_ints : ∀ ns : List Int, PyData.canLayAll0 (ns.map PyData.int) = true
  | [] => rfl
  | n :: ns => by rw [List.map_cons, PyData.canLayAll0, canLay_ints ns]; rfl
theorem weight_ints : ∀ ns : List Int, (∀ n ∈ ns, n.natAbs < 10 ^ 12) → PyData.weightAll (ns.map PyData.int) ≤ 41 * ns.length
  | [], _ => Nat.le_refl _
  | n :: ns, h => by
    rw [List.map_cons, PyData.weightAll]
    have ih := weight_ints ns fun m hm => h m (List.mem_cons_of_mem _ hm)
    have h0 : (PyData.int n).weight ≤ 40 := by
      have hn := h n List.mem_cons_self
      have h40 : n.natAbs < 2 ^ 40 := Nat.lt_trans hn (by decide)
      by_cases hz : n = 0
      · subst hz; decide
      · have : n.natAbs.log2 < 40 := (Nat.log2_lt (by omega)).mpr h40
        simp only [PyData.weight]
        split <;> omega
    rw [List.length_cons]
    have e : (PyData.int n).weight + 1 + PyData.weightAll (ns.map PyData.int) ≤ 40 + 1 + 41 * ns.length := Nat.add_le_add (Nat.add_le_add_right h0 1) ih
    exact Nat.le_trans e (by omega)
theorem int_short {i : Int} (h : i.natAbs < 10 ^ 12) : PyData.leavesShort 13 (.int i) = true := by
  have e : (PyData.shown (.int i)).length ≤ 13 := by
    have := int_text_length_le10 (a := i) (k := 12) (by decide) h
    show (Str.ofString (toString i)).length ≤ 13
    rw [PySem.ofString_length]; exact this
  simpa [PyData.leavesShort] using e
theorem short_ints : ∀ ns : List Int, (∀ n ∈ ns, n.natAbs < 10 ^ 12) → PyData.leavesShortAll 13 (ns.map PyData.int) = true
  | [], _ => rfl
  | n :: ns, h => by rw [List.map_cons, PyData.leavesShortAll, short_ints ns fun m hm => h m (List.mem_cons_of_mem _ hm), int_short (h n List.mem_cons_self)]; rfl
theorem int_show {i : Int} (h : i.natAbs < 10 ^ 12) : PyData.showable (.int i) = true := by
  have : i.natAbs.log2 < 1920 := by
    by_cases h0 : i.natAbs = 0
    · rw [h0]; decide
    · exact (Nat.log2_lt h0).mpr (Nat.lt_trans h (by decide))
  simpa [PyData.showable] using this
theorem show_ints : ∀ ns : List Int, (∀ n ∈ ns, n.natAbs < 10 ^ 12) → PyData.showableAll (ns.map PyData.int) = true
  | [], _ => rfl
  | n :: ns, h => by rw [List.map_cons, PyData.showableAll, show_ints ns fun m hm => h m (List.mem_cons_of_mem _ hm), int_show (h n List.mem_cons_self)]; rfl
theorem eqvAll_ints : ∀ ns ms : List Int, PyData.eqvAll (ns.map PyData.int) (ms.map PyData.int) = decide (ns = ms)
  | [], [] => by simp [PyData.eqvAll]
  | [], m :: ms => by simp [PyData.eqvAll]
  | n :: ns, [] => by simp [PyData.eqvAll]
  | n :: ns, m :: ms => by
    rw [List.map_cons, List.map_cons, PyData.eqvAll, eqvAll_ints ns ms]
    have e : PyData.eqv (.int n) (.int m) = decide (n = m) := by simp [PyData.eqv, Bool.beq_eq_decide_eq]
    rw [e]
    by_cases h1 : n = m <;> by_cases h2 : ns = ms <;> simp [h1, h2]
theorem fit_tup (ns : List Int) : (D.tup (ns.map D.int)).fit = true := by
  simp [D.fit, D.pl, D.py, SeqAt.shaped, pls_ints, pys_ints, PyData.canLay0, canLay_ints, PyData.depth, depthInts]
theorem fit_lst (ns : List Int) : (D.lst (ns.map D.int)).fit = true := by
  simp [D.fit, D.pl, D.py, SeqAt.shaped, pls_ints, pys_ints, PyData.canLay0, canLay_ints, PyData.depth, depthInts]
theorem fit_int (i : Int) : (D.int i).fit = true := by simp [D.fit, D.pl, D.py, SeqAt.shaped, PyData.canLay0, PyData.depth]
theorem eqv_tup (ns ms : List Int) : PyData.eqv (D.tup (ns.map D.int)).py (D.tup (ms.map D.int)).py = decide (ns = ms) := by
  simp only [D.py, pys_ints, PyData.eqv, eqvAll_ints]
theorem eqv_lst (ns ms : List Int) : PyData.eqv (D.lst (ns.map D.int)).py (D.lst (ms.map D.int)).py = decide (ns = ms) := by
  simp only [D.py, pys_ints, PyData.eqv, eqvAll_ints]
section
variable {X : Cx} {pa : Pin} {e a b o : Expr} {es : List Expr} {Γ Γ' : Gm} {Q Q' : Rs → Gm → Prop} {QB : Bool → Gm → Prop} {T : En} {pos p1 p2 p3 apos cpos : Pos} {k : Nat} {r s : Rs}
theorem rq_tup {f : Bool → Bool} {ns ms : List Int} (h1 : rd Γ r = some (.tup (ns.map D.int))) (h2 : rd Γ s = some (.tup (ms.map D.int))) (q : QB (f (decide (ns = ms))) Γ) : RQ f QB Γ r s :=
  .dat h1 h2 (fit_tup _) (fit_tup _) (by rw [eqv_tup]; exact q)
theorem rq_lst {f : Bool → Bool} {ns ms : List Int} (h1 : rd Γ r = some (.lst (ns.map D.int))) (h2 : rd Γ s = some (.lst (ms.map D.int))) (q : QB (f (decide (ns = ms))) Γ) : RQ f QB Γ r s :=
  .dat h1 h2 (fit_lst _) (fit_lst _) (by rw [eqv_lst]; exact q)
theorem rq_same {f : Bool → Bool} {x : D} (h1 : rd Γ r = some x) (h2 : rd Γ s = some x) (hf : x.fit = true) (q : QB (f true) Γ) : RQ f QB Γ r s :=
  .dat h1 h2 hf hf (by rw [SeqAt.eqv_refl x.py (SeqAt.canLay_of_shaped (D.fit_sh hf))]; exact q)
/-! ## repr -/
theorem call_reprD (hgd : X.A.guards = some []) (hu : X.A.units + 64 < cLine) : CallR X (.builtin "repr") (fun vs H Q => ∃ a d, vs = [V.ref a] ∧ Dp X.K H (.ref a) d ∧ d.showable = true ∧ d.hasDict = false ∧ d.depth ≤ 60 ∧ d.shown.length ≤ sizeLine ∧ Q (.str d.shown) H) := by
  intro pins s σ H xs us Q I r h
  obtain ⟨a, d, rfl, hd, h1, h2, h3, h4, q⟩ := h
  obtain ⟨u, rfl, ru⟩ := vals1 r
  cases ru
  obtain ⟨as, rd⟩ := Dp.reads I d _ _ hd rfl
  exact repr_of_reads' rd h1 (fun z => by rw [h2] at z; cases z) hgd (by omega) (fun _ _ e => e) (fun h' u tk hk => ⟨.str d.shown, H, I.kept hk, ⟨u, rfl⟩, q⟩) h4
def D.isSq : D → Bool
  | .lst _ | .tup _ => true
  | _ => false
def PRepr (Q : Rs → Gm → Prop) : Rs → Gm → Prop := fun r Γ => ∃ x, rd Γ r = some x ∧ x.isSq = true ∧ x.pl = true ∧ x.py.showable = true ∧ x.py.hasDict = false ∧ x.py.depth ≤ 60 ∧ x.py.shown.length ≤ sizeLine ∧ Q (.d (.str x.py.shown)) Γ
theorem ve_repr {p : Pos} (hgd : X.A.guards = some []) (hu : X.A.units + 64 < cLine) (hg : Gl X "repr") (hm : X.mg "repr" = none) (h : VE X pa a Γ fun r Γ1 => PRepr Q r.fz Γ1) (he : S1 X a := by rfl) (hpl : NoStar X pos [] := by rfl) : VE X pa (.Call (.Name "repr" p) [a] [] pos) Γ Q :=
  ve_call1 (PRepr Q) (pe_callB (call_reprD hgd hu) hg hm bb_repr pa_tw (he := he) (hpl := hpl)) h he fun F σ H G0 G Γ α v r ee S c ⟨x, hx, hq, hp, h1, h2, h3, h4, q⟩ => by
    have re := c.look S hx
    have dp := re.dp hp
    have : ∃ a, v = .ref a := by
      cases x <;> simp [D.isSq] at hq <;> cases re <;> exact ⟨_, rfl⟩
    obtain ⟨a, rfl⟩ := this
    exact ⟨a, x.py, rfl, dp, h1, h2, h3, h4, .trans ee (goal_str S q)⟩
theorem prepr_mk {x : D} (hx : rd Γ r = some x) (hq : x.isSq = true) (hp : x.pl = true) (hs : x.py.showable = true) (hc : x.py.canLay0 = true) (hd : x.py.depth ≤ 60) (hl : x.py.leavesShort 13 = true) (hw : x.py.weight ≤ 2 ^ 20) (q : Q (.d (.str x.py.shown)) Γ) : PRepr Q r Γ :=
  ⟨x, hx, hq, hp, hs, PyData.hasDict_of_canLay _ hc, hd, PyData.shown_fits (B := 13) (by decide) (by decide) hl hw, q⟩
/-! ## the script's cells: xs[:n] -/
theorem cutV_ints (ns : List Int) (n : Nat) : cutV (ns.map V.int) none (some (n : Int)) = (ns.take n).map V.int := by
  unfold cutV
  rw [HT.sIx_none, HT.sIx_nat]
  simp only [List.drop_zero, Nat.sub_zero, List.length_map]
  rw [← List.map_take]
  congr 1
  rw [List.take_eq_take_iff]
  omega
theorem ve_scr {hi : Expr} {n : Nat} {p : Pos} (h : VE X pa a Γ fun r Γ1 => PartIs X pa Γ1 (some hi) (some (n : Int)) ∧ ∃ ns, r = .d (.scr ns) ∧ Q (.n (.l ((ns.take n).map D.int))) Γ1) : VE X pa (.Subscript a (.Slice none (some hi) none p) pos) Γ Q :=
  ve_of (pe_slice sl_list pe_tw po_tw po_tw) fun F σ H G S => by
    refine (h F σ H G S).mono fun v H1 ⟨G1, Γ1, r, e1, S1, p2, ns, er, q⟩ => ?_
    subst er
    obtain ⟨α, S3, rv⟩ := S1
    have rv' : Re X.K G1 v (.scr ns) := rv
    refine PartIs.no.run ⟨α, S3⟩ fun H3 G3 e3 S3 => p2.run S3 fun H4 G4 e4 S4 => ?_
    obtain ⟨α4, S4⟩ := S4
    cases rv' with
    | scr _ hs =>
      refine ⟨_, _, rfl, (((e3.trans e4).sql hs) |> S4.ext.sql), fun l hl => Goal.trans ((e1.trans e3).trans e4) ?_⟩
      rw [cutV_ints]
      exact goal_l S4 hl (ReA.ofInts _) q
end
end AV
set_option Elab.async false
set_option linter.all false
set_option maxRecDepth 100000
set_option maxHeartbeats 4000000
namespace AV
open PySem PySem.Spec PyProof.Rows L2
/-! ## comprehensions over ints, the slots as they were -/
section
variable {X : Cx} {pa : Pin} {elt tg iter c : Expr} {ifs : List Expr} {scope : Scope} {own : List (Str × Nat)} {Γ Γ1 Γw : Gm} {Q : Rs → Gm → Prop} {T : En} {pos : Pos} {vs : List Nat} {put : D → Gm → Gm → Prop}
theorem lc_map {β : Type} {xs : List D} (ns : List β) (e f : β → D) (hx : xs = ns.map e) (hl : ns.length ≤ 100000) (hw : wipeG Γ1 vs = Γw)
    (hs : ∀ n ∈ ns, ∃ Γ2, put (e n) Γw Γ2 ∧ InB X scope fun B => VE B pa elt Γ2 fun r Γ4 => r.fz = .d (f n) ∧ wipeG Γ4 vs = Γw) (q : Q (.n (.l (ns.map f))) Γw) : LcOk X pa scope elt [] vs put Q xs Γ1 := by
  subst hx
  refine ⟨fun i ds Γ' => ds = (ns.take i).map f ∧ Γ' = Γw, by rw [List.length_map]; exact sz5 hl, ⟨rfl, hw⟩, ?_, ?_⟩
  · rintro i ds x Γ' hx ⟨rfl, rfl⟩
    rw [List.getElem?_map] at hx
    cases hn : ns[i]? with
    | none => rw [hn] at hx; cases hx
    | some n =>
      rw [hn] at hx
      have hx : e n = x := Option.some.inj hx
      subst hx
      obtain ⟨Γ2, hp, hb⟩ := hs n (List.mem_of_getElem? hn)
      refine ⟨by rw [List.length_map, List.length_take]; omega, Γ2, hp, fun s H C cl fp => vts_nil ⟨fun _ s H C cl fp => (hb s H C cl fp).mono fun r Γ4 ⟨h1, h2⟩ => ⟨_, h1, ?_, h2⟩, fun h => by cases h⟩⟩
      rw [List.take_add_one, hn]; simp
  · rintro ds Γ' ⟨rfl, rfl⟩
    rw [List.length_map, List.take_length]
    exact q
theorem lc_mapI {xs : List D} {i : Nat} (ns : List Int) (g : Int → Int) (hx : xs = ns.map D.int) (hl : ns.length ≤ 100000) (hw : wipeG Γ1 [i] = Γw)
    (hs : ∀ n ∈ ns, InB X scope fun B => VE B pa elt (Γw.set i (some (.d (.int n)))) fun r Γ4 => r.fz = .d (.int (g n)) ∧ wipeG Γ4 [i] = Γw) (q : Q (.n (.l ((ns.map g).map D.int))) Γw) : LcOk X pa scope elt [] [i] (putN i) Q xs Γ1 :=
  lc_map ns D.int (fun n => .int (g n)) hx hl hw (fun n hn => ⟨_, rfl, hs n hn⟩) (by rw [List.map_map] at q; exact q)
theorem lc_filt {β : Type} {xs : List D} (ns : List β) (e f : β → D) (p : β → Bool) (hx : xs = ns.map e) (hl : ns.length ≤ 100000) (hw : wipeG Γ1 vs = Γw)
    (hs : ∀ n ∈ ns, ∃ Γ2, put (e n) Γw Γ2 ∧ (InB X scope fun B => VT B pa c Γ2 fun b Γ3 => b = p n ∧ Γ3 = Γ2) ∧ wipeG Γ2 vs = Γw ∧ (p n = true → InB X scope fun B => VE B pa elt Γ2 fun r Γ4 => r.fz = .d (f n) ∧ wipeG Γ4 vs = Γw)) (q : Q (.n (.l ((ns.filter p).map f))) Γw) : LcOk X pa scope elt [c] vs put Q xs Γ1 := by
  subst hx
  refine ⟨fun i ds Γ' => ds = ((ns.take i).filter p).map f ∧ Γ' = Γw, by rw [List.length_map]; exact sz5 hl, ⟨rfl, hw⟩, ?_, ?_⟩
  · rintro i ds x Γ' hx ⟨rfl, rfl⟩
    rw [List.getElem?_map] at hx
    cases hn : ns[i]? with
    | none => rw [hn] at hx; cases hx
    | some n =>
      rw [hn] at hx
      have hx : e n = x := Option.some.inj hx
      subst hx
      obtain ⟨Γ2, hp, ht, hw2, hb⟩ := hs n (List.mem_of_getElem? hn)
      have hlen : ((List.take i ns).filter p).length ≤ i := Nat.le_trans (List.length_filter_le _ _) (by rw [List.length_take]; omega)
      refine ⟨by rw [List.length_map]; exact hlen, Γ2, hp, fun s H C cl fp => vts_one ?_⟩
      refine fun F σ H' G S => (ht s H C cl fp F σ H' G S).mono fun b H1 ⟨G1, Γ3, e1, S1, eb, eg⟩ => ⟨G1, Γ3, e1, S1, fun hbt s H C cl fp => ?_, fun hbf => ⟨?_, ?_⟩⟩
      · subst eb; subst eg
        refine (hb hbt s H C cl fp).mono fun r Γ4 ⟨h1, h2⟩ => ⟨_, h1, ?_, h2⟩
        rw [List.take_add_one, hn, List.filter_append]; simp [hbt]
      · subst eb
        rw [List.take_add_one, hn, List.filter_append]; simp [hbf]
      · subst eg; exact hw2
  · rintro ds Γ' ⟨rfl, rfl⟩
    rw [List.length_map, List.take_length]
    exact q
/-- the ints of a range -/
def rgI (lo hi : Int) : List Int := (List.range (hi - lo).toNat).map fun (i : Nat) => lo + i
theorem rgI_length (lo hi : Int) : (rgI lo hi).length = (hi - lo).toNat := by simp [rgI]
theorem rgI_mem {lo hi n : Int} : n ∈ rgI lo hi ↔ lo ≤ n ∧ n < hi := by
  unfold rgI
  rw [List.mem_map]
  constructor
  · rintro ⟨i, h, rfl⟩; have := List.mem_range.mp h; omega
  · intro h; exact ⟨(n - lo).toNat, List.mem_range.mpr (by omega), by omega⟩
theorem rgI_get {lo hi : Int} {i : Nat} (h : i < (hi - lo).toNat) : (rgI lo hi)[i]? = some (lo + i) := by
  unfold rgI; rw [List.getElem?_map, List.getElem?_range h]; rfl
theorem rgD_I (n : Int) : rgD n = (rgI 0 n).map D.int := by
  unfold rgD rgI; simp
theorem rg2_I (a b : Int) : rg2 a b = (rgI a b).map D.int := by
  unfold rg2 rgI; simp [Function.comp_def]
end
end AV
set_option Elab.async false
set_option linter.all false
set_option maxRecDepth 100000
set_option maxHeartbeats 4000000
namespace AV
open PySem PySem.Spec PyProof.Rows L2
/-! ## a, b = .. and a, b, c = ..: values kept till all are there -/
def newsOf : List V → List Rs → List V
  | v :: vs, .n _ :: rs => v :: newsOf vs rs
  | _ :: vs, _ :: rs => newsOf vs rs
  | _, _ => []
inductive RvA (K : PySem.W.Frag) (F : Hp) (σ : L2.St) (H G : Hp) (Γ : Gm) (α : Nat → Addr) : List V → List Rs → Prop
  | nil : RvA K F σ H G Γ α [] []
  | cons (v : V) (vs : List V) (r : Rs) (rs : List Rs) : Rv K F σ H G Γ α v r → (∀ c, r = .n c → v ∉ newsOf vs rs) → RvA K F σ H G Γ α vs rs → RvA K F σ H G Γ α (v :: vs) (r :: rs)
def noS : Rs → Prop
  | .s _ => False
  | _ => True
def VPs (X : Cx) (pa : Pin) (es : List Expr) (Γ : Gm) (Q : List Rs → Gm → Prop) : Prop :=
  ∀ (F : Hp) (σ : L2.St) (H G : Hp), Sk0 X.K pa F σ H G Γ → twA X es σ H fun vs H' => ∃ G' Γ' rs α, Ex G G' ∧ Sk X.K pa F σ H' G' Γ' α ∧ RvA X.K F σ H' G' Γ' α vs rs ∧ (∀ r ∈ rs, noS r) ∧ Q rs Γ'
def storedA (Γ : Gm) : List Nat → List Rs → (Gm → Prop) → Prop
  | i :: is, r :: rs, P => stored Γ i r fun Γ' => storedA Γ' is rs P
  | [], [], P => P Γ
  | _, _, _ => False
section
variable {K : PySem.W.Frag} {pa : Pin} {F : Hp} {σ : L2.St} {H H' G G' : Hp} {Γ Γ' : Gm} {α : Nat → Addr} {v : V} {r : Rs} {vs : List V} {rs : List Rs}
/-- a new result is kept in the frame -/
theorem Sk.keep {p : Addr} {ho : HO} (S : Sk K pa F σ H G Γ α) (hH : H p = some ho) (g0 : G p = none) (f0 : F p = none) (na : ∀ i c, Γ[i]? = some (some (.o c)) → α i ≠ p) (n : ∀ ps, ho ≠ .tbl ps) : Sk K pa (L2.upd F p ho) σ H G Γ α where
  ext := S.ext
  fr := fun a o q => by
    by_cases ha : a = p
    · subst ha; rw [upd_same] at q; cases q; exact ⟨FrH.of hH n, g0⟩
    · rw [upd_ne ha] at q; exact S.fr a o q
  len := S.len
  sl := fun i it hi => by
    have q := S.sl i it hi
    cases it with
    | d z => exact q
    | o c =>
      obtain ⟨e1, e2, e3, ho', e4, e5⟩ := q
      exact ⟨e1, e2, by rw [upd_ne (na i c hi)]; exact e3, ho', e4, e5⟩
  inj := S.inj
  pin := S.pin
  tab := fun q hq => by
    obtain ⟨t, ht⟩ := S.tab q hq
    exact ⟨t, by rw [upd_ne (ne_of_none ht f0)]; exact ht⟩
theorem RvA.unkeep {p : Addr} {ho : HO} : ∀ {vs : List V} {rs : List Rs}, (∀ r ∈ rs, noS r) → RvA K (L2.upd F p ho) σ H G Γ α vs rs → RvA K F σ H G Γ α vs rs ∧ V.ref p ∉ newsOf vs rs
  | [], [], _, .nil => ⟨.nil, by simp [newsOf]⟩
  | v :: vs, r :: rs, h, .cons _ _ _ _ rv nd t => by
    obtain ⟨t', np⟩ := RvA.unkeep (fun r hr => h r (List.mem_cons_of_mem _ hr)) t
    cases r with
    | d x => exact ⟨.cons _ _ _ _ rv nd t', np⟩
    | s i => exact (h _ List.mem_cons_self).elim
    | n c =>
      obtain ⟨p2, ho2, e1, e2, e3, e4, e5, e6⟩ := rv
      have hp : p2 ≠ p := fun hp => by subst hp; rw [upd_same] at e3; cases e3
      rw [upd_ne hp] at e3
      refine ⟨.cons _ _ _ _ ⟨p2, ho2, e1, e2, e3, e4, e5, e6⟩ nd t', ?_⟩
      show V.ref p ∉ v :: newsOf vs rs
      rw [List.mem_cons, not_or]
      exact ⟨fun z => hp (by rw [e1] at z; exact (V.ref.inj z).symm), np⟩
/-- the rest behind a store -/
theorem RvA.stored {i : Nat} {w : V} {it : AV.It} (α' : Nat → Addr) (hα : ∀ j c, (Γ.set i (some it))[j]? = some (some (.o c)) → (j = i ∧ w = .ref (α' i)) ∨ (Γ[j]? = some (some (.o c)) ∧ α' j = α j)) :
    ∀ {vs : List V} {rs : List Rs}, (∀ r ∈ rs, noS r) → w ∉ newsOf vs rs ∨ (∃ x, it = .d x) → RvA K F σ H G Γ α vs rs → RvA K F (σ.set i (some w)) H G (Γ.set i (some it)) α' vs rs
  | [], [], _, _, .nil => .nil
  | v :: vs, r :: rs, h, hw, .cons _ _ _ _ rv nd t => by
    have hr := h _ List.mem_cons_self
    cases r with
    | s k => exact hr.elim
    | d x => exact .cons _ _ _ _ rv nd (RvA.stored α' hα (fun r hr => h r (List.mem_cons_of_mem _ hr)) hw t)
    | n c =>
      have hw2 : w ∉ newsOf vs rs ∨ ∃ x, it = .d x := hw.imp (fun q z => q (List.mem_cons_of_mem _ z)) id
      refine .cons _ _ _ _ ?_ nd (RvA.stored α' hα (fun r hr => h r (List.mem_cons_of_mem _ hr)) hw2 t)
      obtain ⟨p2, ho2, e1, e2, e3, e4, e5, e6⟩ := rv
      refine ⟨p2, ho2, e1, e2, e3, fun j c' hj z => ?_, e5, e6⟩
      rcases hα j c' hj with ⟨rfl, q⟩ | ⟨q1, q2⟩
      · rcases hw with hw | ⟨x, rfl⟩
        · apply hw
          show w ∈ v :: newsOf vs rs
          rw [q, z, ← e1]; exact List.mem_cons_self
        · rcases set_of hj with ⟨_, _, e⟩ | ⟨ne, _⟩
          · cases e
          · exact ne rfl
      · exact e4 j c' q1 (by rw [← q2]; exact z)
def setA (σ : L2.St) : List Nat → List V → L2.St
  | i :: is, v :: vs => setA (σ.set i (some v)) is vs
  | _, _ => σ
theorem store_all {P : Gm → Prop} : ∀ {is : List Nat} {vs : List V} {rs : List Rs} {σ : L2.St} {Γ : Gm} {α : Nat → Addr}, (∀ i ∈ is, pa i = none) → (∀ r ∈ rs, noS r) → Sk K pa F σ H G Γ α → RvA K F σ H G Γ α vs rs → storedA Γ is rs P → ∃ Γ', Sk0 K pa F (setA σ is vs) H G Γ' ∧ P Γ'
  | [], [], [], σ, Γ, α, _, _, S, .nil, q => ⟨Γ, ⟨α, S⟩, q⟩
  | [], _, _ :: _, _, _, _, _, _, _, _, q => False.elim q
  | _ :: _, _, [], _, _, _, _, _, _, _, q => False.elim q
  | i :: is, v :: vs, r :: rs, σ, Γ, α, hp, hn, S, .cons _ _ _ _ rv nd t, q => by
    have hn' : ∀ r ∈ rs, noS r := fun r hr => hn r (List.mem_cons_of_mem _ hr)
    have hp' : ∀ i ∈ is, pa i = none := fun j hj => hp j (List.mem_cons_of_mem _ hj)
    have hr := hn _ List.mem_cons_self
    have hpi := hp i List.mem_cons_self
    cases r with
    | s k => exact hr.elim
    | d x =>
      refine store_all (is := is) (vs := vs) (rs := rs) hp' hn' (S.setD hpi rv) (RvA.stored α (fun j c hj => ?_) hn' (.inr ⟨x, rfl⟩) t) q
      rcases set_of hj with ⟨_, _, e⟩ | ⟨_, hj⟩
      · cases e
      · exact .inr ⟨hj, rfl⟩
    | n c =>
      have hv := nd c rfl
      obtain ⟨p, ho, rfl, g0, f0, na, hH, rc⟩ := rv
      refine store_all (is := is) (vs := vs) (rs := rs) hp' hn' (S.setO hpi g0 f0 na hH rc) (RvA.stored (putA α i p) (fun j c hj => ?_) hn' (.inl hv) t) q
      rcases set_of hj with ⟨e, _, _⟩ | ⟨ne, hj⟩
      · exact .inl ⟨e.symm, by rw [putA_same]⟩
      · exact .inr ⟨hj, putA_ne (Ne.symm ne)⟩
end
section
variable {X : Cx} {pa : Pin} {e a b c o : Expr} {es : List Expr} {Γ Γ' : Gm} {Q Q' : Rs → Gm → Prop} {T : En} {pos p1 p2 p3 apos cpos : Pos}
theorem vps_nil {Q : List Rs → Gm → Prop} (q : Q [] Γ) : VPs X pa [] Γ Q := fun F σ H G ⟨α, S⟩ => twA_of pa_nil ⟨G, Γ, [], α, Ex.refl G, S, .nil, by simp, q⟩
theorem vps_cons {Q : List Rs → Gm → Prop} (h : VE X pa e Γ fun r Γ1 => noS r ∧ VPs X pa es Γ1 fun rs Γ2 => Q (r :: rs) Γ2) (hs : starEach (e :: es) X.env = (false, eval e X.env) :: starEach es X.env := by rfl) : VPs X pa (e :: es) Γ Q := fun F σ H G S => by
  refine twA_of (pa_cons pe_tw pa_tw hs) ?_
  refine (h F σ H G S).mono fun v H1 ⟨G1, Γ1, r, e1, S1, hn, q⟩ => ?_
  obtain ⟨α1, S1, rv⟩ := S1
  cases r with
  | s i => exact hn.elim
  | d x =>
    refine (q F σ H1 G1 ⟨α1, S1⟩).mono fun vs H2 ⟨G2, Γ2, rs, α2, e2, S2, ra, hns, q2⟩ => ?_
    have rv' : Re X.K G1 v x := rv
    exact ⟨G2, Γ2, .d x :: rs, α2, e1.trans e2, S2, .cons _ _ _ _ (show Re X.K G2 v x from rv'.mono e2) (fun c z => by cases z) ra, fun r hr => by rcases List.mem_cons.mp hr with rfl | hr; exact trivial; exact hns r hr, q2⟩
  | n c =>
    obtain ⟨p, ho, rfl, g0, f0, na, hH, rc⟩ := rv
    refine (q (upd F p ho) σ H1 G1 ⟨α1, S1.keep hH g0 f0 na rc.ntbl⟩).mono fun vs H2 ⟨G2, Γ2, rs, α2, e2, S2, ra, hns, q2⟩ => ?_
    obtain ⟨hH2, g2⟩ := S2.fr p ho upd_same
    have hH2 := hH2.eqn rc.ntbl
    obtain ⟨α3, S3, p', ho', ev, h1, h2, h3, h4, h5⟩ := S2.unframe f0 (rc.mono e2)
    cases ev
    obtain ⟨ra', np⟩ := ra.unkeep hns
    have S4 : Sk X.K pa F σ H2 G2 Γ2 α2 := by
      refine ⟨S2.ext, fun a u hq => ?_, S2.len, fun i it hi => ?_, S2.inj, S2.pin, fun q hq => by
        obtain ⟨t, ht⟩ := S2.tab q hq
        have ne : q.1 ≠ p := fun z => by rw [z, upd_same] at ht; exact rc.ntbl _ (Option.some.inj ht)
        rw [upd_ne ne] at ht; exact ⟨t, ht⟩⟩
      · have na : a ≠ p := fun z => by rw [z, f0] at hq; cases hq
        exact S2.fr a u (by rw [upd_ne na]; exact hq)
      · have q := S2.sl i it hi
        cases it with
        | d z => exact q
        | o c' =>
          obtain ⟨e1, e2, e3, ho', e4, e5⟩ := q
          have ne : α2 i ≠ p := fun z => by rw [z, upd_same] at e3; cases e3
          rw [upd_ne ne] at e3
          exact ⟨e1, e2, e3, ho', e4, e5⟩
    have na2 : ∀ i c, Γ2[i]? = some (some (.o c)) → α2 i ≠ p := fun i c hi z => by
      obtain ⟨_, _, e3, _⟩ := S2.ow hi
      rw [z, upd_same] at e3; cases e3
    exact ⟨G2, Γ2, .n c :: rs, α2, e1.trans e2, S4, .cons _ _ _ _ ⟨p, ho, rfl, g2, f0, na2, hH2, rc.mono e2⟩ (fun _ _ => np) ra', fun r hr => by rcases List.mem_cons.mp hr with rfl | hr; exact trivial; exact hns r hr, q2⟩
theorem RvA.length {K : PySem.W.Frag} {F : Hp} {σ : L2.St} {H G : Hp} {Γ : Gm} {α : Nat → Addr} : ∀ {vs : List V} {rs : List Rs}, RvA K F σ H G Γ α vs rs → vs.length = rs.length
  | _, _, .nil => rfl
  | _, _, .cons _ _ _ _ _ _ t => by simp [RvA.length t]
theorem vs_par2 {i j : Nat} {x y : Str} {px py pt : Pos} {kt : Nat} {k2 : Nat} {pt2 : Pos} (hc : X.calm = true) (hN : X.N.Nodup) (hi : X.N[i]? = some x) (hj : X.N[j]? = some y) (hij : i ≠ j)
    (hx : X.env.scope.names.lookup x = some .local) (hy : X.env.scope.names.lookup y = some .local) (hpi : pa i = none) (hpj : pa j = none)
    (h : VPs X pa [a, b] Γ fun rs Γ2 => rs.length = 2 ∧ storedA Γ2 [i, j] rs T.nx)
    (hw : swappedStores [.Tuple [.Name x px, .Name y py] kt pt] (.Tuple [a, b] k2 pt2) X.env = pure (some [x, y]) := by rfl)
    (hs : swapsWithSole [.Tuple [.Name x px, .Name y py] kt pt] (.Tuple [a, b] k2 pt2) pos.line X.env = pure false := by rfl) :
    VS X pa (.Assign [.Tuple [.Name x px, .Name y py] kt pt] (.Tuple [a, b] k2 pt2) pos) Γ T := fun F σ H G S => by
  refine twS_of (ps_par hc hN hi hj hij hx hy pa_tw hw hs) ?_
  refine (h F σ H G S).mono fun vs H1 ⟨G1, Γ1, rs, α, e1, S1, ra, hn, hl, q⟩ => ?_
  obtain ⟨Γ2, S2, q2⟩ := store_all (is := [i, j]) (fun k hk => by simp at hk; rcases hk with rfl | rfl <;> assumption) hn S1 ra q
  have hlen := ra.length
  rw [hl] at hlen
  match vs, hlen with
  | [v, w], _ => exact ⟨v, w, rfl, G1, Γ2, e1, S2, q2⟩
theorem vs_par3 {i j l : Nat} {x y z : Str} {px py pz pt : Pos} {kt : Nat} {k2 : Nat} {pt2 : Pos} (hc : X.calm = true) (hN : X.N.Nodup) (hi : X.N[i]? = some x) (hj : X.N[j]? = some y) (hl : X.N[l]? = some z) (hij : i ≠ j) (hil : i ≠ l) (hjl : j ≠ l)
    (hx : X.env.scope.names.lookup x = some .local) (hy : X.env.scope.names.lookup y = some .local) (hz : X.env.scope.names.lookup z = some .local) (hpi : pa i = none) (hpj : pa j = none) (hpl : pa l = none)
    (h : VPs X pa [a, b, c] Γ fun rs Γ2 => rs.length = 3 ∧ storedA Γ2 [i, j, l] rs T.nx)
    (hw : swappedStores [.Tuple [.Name x px, .Name y py, .Name z pz] kt pt] (.Tuple [a, b, c] k2 pt2) X.env = pure (some [x, y, z]) := by rfl)
    (hs : swapsWithSole [.Tuple [.Name x px, .Name y py, .Name z pz] kt pt] (.Tuple [a, b, c] k2 pt2) pos.line X.env = pure false := by rfl) :
    VS X pa (.Assign [.Tuple [.Name x px, .Name y py, .Name z pz] kt pt] (.Tuple [a, b, c] k2 pt2) pos) Γ T := fun F σ H G S => by
  refine twS_of (ps_par3 hc hN hi hj hl hij hil hjl hx hy hz pa_tw hw hs) ?_
  refine (h F σ H G S).mono fun vs H1 ⟨G1, Γ1, rs, α, e1, S1, ra, hn, hlr, q⟩ => ?_
  obtain ⟨Γ2, S2, q2⟩ := store_all (is := [i, j, l]) (fun k hk => by simp at hk; rcases hk with rfl | rfl | rfl <;> assumption) hn S1 ra q
  have hlen := ra.length
  rw [hlr] at hlen
  match vs, hlen with
  | [v, w, u], _ => exact ⟨v, w, u, rfl, G1, Γ2, e1, S2, q2⟩
end
end AV
set_option Elab.async false
set_option linter.all false
set_option maxRecDepth 100000
set_option maxHeartbeats 4000000
namespace AV
open PySem PySem.Spec PyProof.Rows L2
/-! ## dict comprehensions -/
section
variable {X : Cx} {pa : Pin} {kx vx tg iter : Expr} {ifs : List Expr} {scope : Scope} {own : List (Str × Nat)} {Γ : Gm} {Q : Rs → Gm → Prop} {T : En} {pos : Pos} {vs : List Nat} {put : D → Gm → Gm → Prop}
def DcOk (X : Cx) (pa : Pin) (scope : Scope) (kx vx : Expr) (ifs : List Expr) (vs : List Nat) (put : D → Gm → Gm → Prop) (Q : Rs → Gm → Prop) : List D → Gm → Prop := fun xs Γ1 =>
  ∃ Iv : Nat → List (Key × D) → Gm → Prop, xs.length ≤ 100000 ∧ Iv 0 [] (wipeG Γ1 vs) ∧ (∀ i ds x Γ', xs[i]? = some x → Iv i ds Γ' → ds.length ≤ i ∧ ∃ Γ2, put x Γ' Γ2 ∧
    InB X scope fun B => VTs B pa ifs Γ2 fun b Γ3 => (b = true → InB X scope fun B => VE B pa kx Γ3 fun r Γ4 => ∃ y k, r.fz = .d y ∧ kD y = some k ∧ InB X scope fun B => VE B pa vx Γ4 fun s Γ5 => ∃ z, s.fz = .d z ∧ Iv (i + 1) (dp ds k z) (wipeG Γ5 vs)) ∧ (b = false → Iv (i + 1) ds (wipeG Γ3 vs))) ∧
  ∀ ds Γ', Iv xs.length ds Γ' → Q (.n (.k ds)) Γ'
theorem dc_tell {Z : VK} {wi : TI} {g : TG} (hv : ∀ i ∈ vs, pa i = none) (tok : TgOk X tg g vs put) {F : Hp} {σ : L2.St} {H G : Hp}
    (hi : ∀ R : L2.It → Hp → Prop, (∀ J H1 G1 Γ1 xs, Ex G G1 → Sk0 X.K pa F σ H1 G1 Γ1 → DcOk X pa scope kx vx ifs vs put Q xs Γ1 → Wk X.K J G1 xs → R J H1) → wi σ H R)
    (hz : ∀ v H', (∃ G' Γ' r, Ex G G' ∧ StR X.K pa F σ H' G' Γ' v r ∧ Q r Γ') → Z v H') :
    tDc wi g (ttB X scope ifs) (teB X scope kx) (teB X scope vx) vs σ H Z := by
  refine hi _ fun J H1 G1 Γ1 xs e1 ⟨α1, S1⟩ ⟨Iv, hzl, i0, step, fin⟩ wk Dp hD => ?_
  have f0 : F Dp = none := by
    cases q : F Dp with
    | none => rfl
    | some o => obtain ⟨u, hu⟩ := (S1.fr Dp o q).1.some; rw [hu] at hD; cases hD
  let Pv : Nat → Hp → Prop := fun i H' => ∃ G' Γ' acc ds, Ex G1 G' ∧ Sk0 X.K pa (upd F Dp (.dK acc)) (L2.wipe σ vs) H' G' Γ' ∧ acc.map (·.1) = ds.map (·.1) ∧ ReA X.K G' (acc.map (·.2)) (ds.map (·.2)) ∧ Iv i ds Γ'
  refine ⟨fun i m H' => m = xs.length - i ∧ i ≤ xs.length ∧ Pv i H', ⟨xs.length, by simp, Nat.zero_le _, G1, _, [], [], Ex.refl G1, ⟨α1, (S1.frame hD).wipe hv⟩, rfl, .nil, i0⟩, ?_⟩
  rintro i m H' ⟨rfl, hle, G', Γ', acc, ds, e', ⟨α, S'⟩, hk, ra, iv⟩
  obtain ⟨w1, w2, w3⟩ := wk i H' (e'.trans S'.ext)
  by_cases hlt : i < xs.length
  · refine .inr ⟨w1 hlt, fun H2 => i + 1 ≤ xs.length ∧ Pv (i + 1) H2, fun H2 q => ⟨xs.length - (i + 1), by omega, rfl, q⟩, fun x H2 y => ?_⟩
    obtain ⟨d, hd, yl⟩ := w3 x H2 hlt y
    have yl' : Yl X.K G' H' x H2 d := by
      rcases yl with ⟨e, r⟩ | ⟨t, vs, ds, q1, q2, q3, q4, r⟩
      · exact .inl ⟨e, r.mono e'⟩
      · exact .inr ⟨t, vs, ds, q1, q2, q3, q4, r.mono e'⟩
    obtain ⟨G2, e2, S2, r2⟩ := yl'.got S'
    obtain ⟨hl, Γ2, hp2, hb⟩ := step i ds d Γ' hd iv
    have hla : acc.length = ds.length := by have := congrArg List.length hk; simpa using this
    refine tok.run pa _ _ H2 G2 Γ' Γ2 α x d S2 r2 hv hp2 _ fun σ3 hw S3 => ?_
    have hw2 : L2.wipe σ3 vs = L2.wipe σ vs := by rw [hw]; exact wipe_wipe σ vs
    refine ⟨hw2, fun s H0 C cl fp => ?_⟩
    refine (hb s H0 C cl fp _ σ3 H2 G2 ⟨α, S3⟩).mono fun b H3 ⟨G3, Γ3, e3, S4, q1, q2⟩ => ?_
    cases b with
    | true =>
      rw [if_pos rfl]
      refine fun s H0 C cl fp => (q1 rfl s H0 C cl fp _ σ3 H3 G3 S4).mono fun v H4 ⟨G4, Γ4, r, e4, S5, y, kk, ey, ek, q5⟩ => ?_
      obtain ⟨G5, e5, S6⟩ := S5.fz
      have cv := S6.cv
      rw [ey] at cv
      obtain ⟨α6, S6, _⟩ := S6
      have rv : Re X.K G5 v y := cv
      have ev := rv.key ek
      refine fun s H0 C cl fp => (q5 s H0 C cl fp _ σ3 H4 G5 ⟨α6, S6⟩).mono fun u H5 ⟨G7, Γ7, r7, e7, S7, z, ez, iv7⟩ => ?_
      obtain ⟨G8, e8, S8⟩ := S7.fz
      have cz := S8.cv
      rw [ez] at cz
      obtain ⟨α8, S8, _⟩ := S8
      have rz : Re X.K G8 u z := cz
      have ee : Ex G' G8 := ((((e2.trans e3).trans e4).trans e5).trans e7).trans e8
      obtain ⟨d1, d2⟩ := dp_re kk rz hk (ra.mono ee)
      refine ⟨acc, kk, ev, (S8.fr Dp _ upd_same).1.eqn (by intro _ z; cases z), by rw [hla, sizeLine_eq]; omega, hlt, G8, _, _, _, e'.trans ee, ⟨α8, ?_⟩, d1, d2, iv7⟩
      have S9 := S8.wipe hv
      rw [hw2] at S9
      exact S9.reframe
    | false =>
      rw [if_neg Bool.false_ne_true]
      obtain ⟨α4, S4⟩ := S4
      have S7 := S4.wipe hv
      rw [hw2] at S7
      exact ⟨hlt, G3, _, acc, ds, (e'.trans e2).trans e3, ⟨α4, S7⟩, hk, ra.mono (e2.trans e3), q2 rfl⟩
  · have e : i = xs.length := by omega
    subst e
    exact .inl ⟨w2 (Nat.le_refl _), hz _ _ ⟨G', Γ', .n (.k ds), e1.trans e', S'.unwipe.unframe f0 ⟨acc, rfl, hk, ra⟩, fin ds Γ' iv⟩⟩
theorem ve_dc (hc : X.calm = true) (hN : X.N.Nodup) (ok : BlkOk X.N X.env.scope scope own) (ht : TgB X scope tg (own.map (·.2)) put) (hv : ∀ i ∈ own.map (·.2), pa i = none)
    (hi : VI X pa tg iter Γ (DcOk X pa scope kx vx ifs (own.map (·.2)) put Q)) (hs : ∀ x, foldedSetIterable iter X.env x = pure x := by intro _; rfl) : VE X pa (.DictComp kx vx [⟨tg, iter, ifs, 0⟩] scope pos) Γ Q := fun F σ H G S => by
  obtain ⟨wi, pi, hi⟩ := hi
  obtain ⟨g, pg, tok⟩ := ht.ex
  refine tw_of (pe_dc (tk := teB X scope kx) (tv := teB X scope vx) (tt := ttB X scope ifs) hc hN pi ok pg (fun s H C cl fp => ⟨fun pins s' σ' H' Q' I h => h s H C cl fp pins s' I⟩) (fun s H C cl fp => ⟨fun pins s' σ' H' Q' I h => h s H C cl fp pins s' I⟩) (fun s H C cl fp => ⟨fun pins s' σ' H' Q' I h => h s H C cl fp pins s' I⟩) hs) ?_
  exact dc_tell hv tok (hi F σ H G S) fun _ _ q => q
/-- {n: v for n in unlike ints}: as many as they are -/
theorem dp_new {ds : List (Key × D)} {k : Key} {z : D} (h : k ∉ ds.map (·.1)) : dp ds k z = ds ++ [(k, z)] := by
  unfold dp
  rw [if_neg]
  intro q
  obtain ⟨kv, h1, h2⟩ := List.any_eq_true.mp q
  exact h (List.mem_map.mpr ⟨kv, h1, of_decide_eq_true h2⟩)
theorem dc_unlike {xs : List D} {Γ1 Γw : Gm} {i : Nat} {kk : Int → Key} (ns : List Int) (z : D) (hx : xs = ns.map D.int) (hl : ns.length ≤ 100000) (hn : ns.Nodup) (hw : wipeG Γ1 [i] = Γw) (hk : ∀ n, kD (.int n) = some (kk n)) (hki : ∀ n m, kk n = kk m → n = m)
    (hs : ∀ n ∈ ns, InB X scope fun B => VE B pa kx (Γw.set i (some (.d (.int n)))) fun r Γ4 => r.fz = .d (.int n) ∧ InB X scope fun B => VE B pa vx Γ4 fun s Γ5 => s.fz = .d z ∧ wipeG Γ5 [i] = Γw) (q : ∀ ds : List (Key × D), ds.length = ns.length → Q (.n (.k ds)) Γw) : DcOk X pa scope kx vx [] [i] (putN i) Q xs Γ1 := by
  subst hx
  refine ⟨fun j ds Γ' => ds = (ns.take j).map (fun n => (kk n, z)) ∧ Γ' = Γw, by rw [List.length_map]; exact hl, ⟨rfl, hw⟩, ?_, ?_⟩
  · rintro j ds x Γ' hx ⟨rfl, rfl⟩
    rw [List.getElem?_map] at hx
    cases hm : ns[j]? with
    | none => rw [hm] at hx; cases hx
    | some n =>
      rw [hm] at hx
      have hx : D.int n = x := Option.some.inj hx
      subst hx
      refine ⟨by rw [List.length_map, List.length_take]; omega, _, rfl, fun s H C cl fp => vts_nil ⟨fun _ s H C cl fp => (hs n (List.mem_of_getElem? hm) s H C cl fp).mono fun r Γ4 ⟨h1, h2⟩ => ⟨_, kk n, h1, hk n, fun s H C cl fp => (h2 s H C cl fp).mono fun s Γ5 ⟨h3, h4⟩ => ⟨_, h3, ?_, h4⟩⟩, fun h => by cases h⟩⟩
      rw [dp_new, List.take_add_one, hm]; simp
      intro hmem
      obtain ⟨kv, h1, h2⟩ := List.mem_map.mp hmem
      obtain ⟨m, hm1, hm2⟩ := List.mem_map.mp h1
      subst hm2
      have e : m = n := hki _ _ h2
      subst e
      have hj := (List.getElem?_eq_some_iff.mp hm)
      obtain ⟨hj1, hj2⟩ := hj
      obtain ⟨t, ht1, ht2⟩ := List.mem_take_iff_getElem.mp hm1
      have hne := List.pairwise_iff_getElem.mp hn t j (by omega) hj1 (by omega)
      exact hne (ht2.trans hj2.symm)
  · rintro ds Γ' ⟨rfl, rfl⟩
    rw [List.length_map, List.take_length]
    exact q _ (by simp)
end
end AV
set_option Elab.async false
set_option linter.all false
set_option maxRecDepth 100000
set_option maxHeartbeats 4000000
namespace AV
open PySem PySem.Spec PyProof.Rows L2
section
variable {X : Cx} {pa : Pin} {e a b c o : Expr} {es rest : List Expr} {Γ Γ' : Gm} {Q Q' : Rs → Gm → Prop} {QB : Bool → Gm → Prop} {T : En} {pos p p1 p2 p3 apos cpos : Pos} {r s : Rs} {x : Str} {op op' : CmpOp} {bop : BoolOp} {kws : List Keyword} {f : Str}
theorem RC2.inv {g : Int → Int → Bool} (h : RC2 g QB Γ r s) : ∃ i j, r = .d (.int i) ∧ s = .d (.int j) ∧ QB (g i j) Γ := by cases h with | int q => exact ⟨_, _, rfl, rfl, q⟩
/-! ## a < b < c, the parts as they come -/
inductive RCh (X : Cx) (pa : Pin) (c : Expr) (g g' : Int → Int → Bool) (Q : Bool → Gm → Prop) (Γ : Gm) : Rs → Rs → Prop
  | mk {i j : Int} : (g i j = true → VE X pa c Γ fun t Γ3 => RC2 (fun _ k => g' j k) Q Γ3 (.d (.int j)) t.fz) → (g i j = false → Q false Γ) → RCh X pa c g g' Q Γ (.d (.int i)) (.d (.int j))
theorem vt_ch {g g' : Int → Int → Bool} (ho : OpR X (compareOp op) (rI0 fun i j => .bl (g i j))) (ho' : OpR X (compareOp op') (rI0 fun i j => .bl (g' i j)))
    (h : VE X pa a Γ fun r Γ1 => VE X pa b Γ1 fun s Γ2 => RCh X pa c g g' QB Γ2 r.fz s.fz) (hm : lastMarks [op, op'] [b, c] = false) : VT X pa (.Compare a [op, op'] [b, c] pos) Γ QB := vt_of (pt_chain ho ho' pe_tw pe_tw pe_tw hm) fun F σ H G S => by
  refine (h F σ H G S).mono fun v H1 ⟨G1, Γ1, r, e1, S1, q⟩ => ?_
  obtain ⟨G2, e2, S2⟩ := S1.fz
  have cv := S2.cv
  obtain ⟨α, S3, _⟩ := S2
  refine (q F σ H1 G2 ⟨α, S3⟩).mono fun w H2 ⟨G3, Γ3, s, e3, S4, q3⟩ => ?_
  obtain ⟨G4, e4, S5⟩ := S4.fz
  have cw := S5.cv
  obtain ⟨α', S6, _⟩ := S5
  have cv := (cv.mono e3).mono e4
  have ee := ((e1.trans e2).trans e3).trans e4
  generalize r.fz = r' at q3 cv
  generalize s.fz = s' at q3 cw
  cases q3 with
  | @mk i j h1 h2 =>
    refine ⟨i, j, cv.intE, cw.intE, g i j, rfl, ?_⟩
    cases hg : g i j with
    | true =>
      show (if true = true then _ else _)
      rw [if_pos rfl]
      refine (h1 hg F σ H2 G4 ⟨α', S6⟩).mono fun z H3 ⟨G5, Γ5, t, e5, S7, q5⟩ => ?_
      obtain ⟨G6, e6, S8⟩ := S7.fz
      have cz := S8.cv
      obtain ⟨α'', S9, _⟩ := S8
      obtain ⟨i2, j2, ei, ej, q6⟩ := q5.inv
      rw [ej] at cz
      exact ⟨j, j2, cw.intE, cz.intE, _, rfl, G6, _, (ee.trans e5).trans e6, ⟨α'', S9⟩, q6⟩
    | false =>
      show (if false = true then _ else _)
      rw [if_neg Bool.false_ne_true]
      exact ⟨false, rfl, G4, _, ee, ⟨α', S6⟩, h2 hg⟩
theorem ve_ch {g g' : Int → Int → Bool} (ho : OpR X (compareOp op) (rI0 fun i j => .bl (g i j))) (ho' : OpR X (compareOp op') (rI0 fun i j => .bl (g' i j)))
    (h : VE X pa a Γ fun r Γ1 => VE X pa b Γ1 fun s Γ2 => RCh X pa c g g' (qB Q) Γ2 r.fz s.fz) (hm : lastMarks [op, op'] [b, c] = false) : VE X pa (.Compare a [op, op'] [b, c] pos) Γ Q := ve_of (pe_chain ho ho' pe_tw pe_tw pe_tw hm) fun F σ H G S => by
  refine (h F σ H G S).mono fun v H1 ⟨G1, Γ1, r, e1, S1, q⟩ => ?_
  obtain ⟨G2, e2, S2⟩ := S1.fz
  have cv := S2.cv
  obtain ⟨α, S3, _⟩ := S2
  refine (q F σ H1 G2 ⟨α, S3⟩).mono fun w H2 ⟨G3, Γ3, s, e3, S4, q3⟩ => ?_
  obtain ⟨G4, e4, S5⟩ := S4.fz
  have cw := S5.cv
  obtain ⟨α', S6, _⟩ := S5
  have cv := (cv.mono e3).mono e4
  have ee := ((e1.trans e2).trans e3).trans e4
  generalize r.fz = r' at q3 cv
  generalize s.fz = s' at q3 cw
  cases q3 with
  | @mk i j h1 h2 =>
    refine ⟨i, j, cv.intE, cw.intE, g i j, rfl, ?_⟩
    cases hg : g i j with
    | true =>
      show (if true = true then _ else _)
      rw [if_pos rfl]
      refine (h1 hg F σ H2 G4 ⟨α', S6⟩).mono fun z H3 ⟨G5, Γ5, t, e5, S7, q5⟩ => ?_
      obtain ⟨G6, e6, S8⟩ := S7.fz
      have cz := S8.cv
      obtain ⟨α'', S9, _⟩ := S8
      obtain ⟨i2, j2, ei, ej, q6⟩ := q5.inv
      rw [ej] at cz
      exact ⟨j, j2, cw.intE, cz.intE, G6, _, .d (.bl _), (ee.trans e5).trans e6, ⟨α'', S9, Re.bl _⟩, q6⟩
    | false =>
      show (if false = true then _ else _)
      rw [if_neg Bool.false_ne_true]
      exact ⟨G4, _, .d (.bl false), ee, ⟨α', S6, Re.bl _⟩, h2 hg⟩
theorem vt_ch_ll (h : VE X pa a Γ fun r Γ1 => VE X pa b Γ1 fun s Γ2 => RCh X pa c (fun i j => decide (i ≤ j)) (fun i j => decide (i ≤ j)) QB Γ2 r.fz s.fz) (hm : lastMarks [.LtE, .LtE] [b, c] = false := by with_unfolding_all rfl) : VT X pa (.Compare a [.LtE, .LtE] [b, c] pos) Γ QB := vt_ch op_le op_le h hm
theorem ve_ch_ll (h : VE X pa a Γ fun r Γ1 => VE X pa b Γ1 fun s Γ2 => RCh X pa c (fun i j => decide (i ≤ j)) (fun i j => decide (i ≤ j)) (qB Q) Γ2 r.fz s.fz) (hm : lastMarks [.LtE, .LtE] [b, c] = false := by with_unfolding_all rfl) : VE X pa (.Compare a [.LtE, .LtE] [b, c] pos) Γ Q := ve_ch op_le op_le h hm
theorem vt_ch_lt (h : VE X pa a Γ fun r Γ1 => VE X pa b Γ1 fun s Γ2 => RCh X pa c (fun i j => decide (i ≤ j)) (fun i j => decide (i < j)) QB Γ2 r.fz s.fz) (hm : lastMarks [.LtE, .Lt] [b, c] = false := by with_unfolding_all rfl) : VT X pa (.Compare a [.LtE, .Lt] [b, c] pos) Γ QB := vt_ch op_le op_lt h hm
theorem ve_ch_lt (h : VE X pa a Γ fun r Γ1 => VE X pa b Γ1 fun s Γ2 => RCh X pa c (fun i j => decide (i ≤ j)) (fun i j => decide (i < j)) (qB Q) Γ2 r.fz s.fz) (hm : lastMarks [.LtE, .Lt] [b, c] = false := by with_unfolding_all rfl) : VE X pa (.Compare a [.LtE, .Lt] [b, c] pos) Γ Q := ve_ch op_le op_lt h hm
theorem g_rch {g g' : Int → Int → Bool} (h : RCh X pa c g g' QB Γ r s) : RCh X pa c g g' QB Γ r s := h
/-! ## and, or, not of bools, as values -/
inductive RBo (P1 P2 : Prop) (c : Bool) : Prop
  | mk : (c = true → P1) → (c = false → P2) → RBo P1 P2 c
inductive PBo (P1 P2 : Gm → Prop) (Γ : Gm) : Rs → Prop
  | mk {c : Bool} : (c = true → P1 Γ) → (c = false → P2 Γ) → PBo P1 P2 Γ (.d (.bl c))
theorem ve_and' (h : VE X pa a Γ fun r Γ1 => PBo (fun Γ1 => VE X pa (.BoolOp .And (b :: rest) pos) Γ1 Q) (fun Γ1 => Q (.d (.bl false)) Γ1) Γ1 r.fz) : VE X pa (.BoolOp .And (a :: b :: rest) pos) Γ Q :=
  ve_and (h.mono fun r Γ1 q => by
    cases r with
    | d y => cases q with | mk h1 h2 => exact ⟨_, rfl, h1, h2⟩
    | n y => cases y <;> cases q
    | s y => cases q)
theorem ve_or' (h : VE X pa a Γ fun r Γ1 => PBo (fun Γ1 => Q (.d (.bl true)) Γ1) (fun Γ1 => VE X pa (.BoolOp .Or (b :: rest) pos) Γ1 Q) Γ1 r.fz) : VE X pa (.BoolOp .Or (a :: b :: rest) pos) Γ Q :=
  ve_or (h.mono fun r Γ1 q => by
    cases r with
    | d y => cases q with | mk h1 h2 => exact ⟨_, rfl, h2, h1⟩
    | n y => cases y <;> cases q
    | s y => cases q)
theorem ve_not' (h : VE X pa a Γ fun r Γ1 => PBo (fun Γ1 => Q (.d (.bl false)) Γ1) (fun Γ1 => Q (.d (.bl true)) Γ1) Γ1 r.fz) : VE X pa (.UnaryOp .Not a pos) Γ Q :=
  ve_not (h.mono fun r Γ1 q => by
    cases r with
    | d y => cases q with
      | @mk c h1 h2 =>
        cases c with
        | true => exact ⟨true, rfl, h1 rfl⟩
        | false => exact ⟨false, rfl, h2 rfl⟩
    | n y => cases y <;> cases q
    | s y => cases q)
/-- any value that is a bool, as a test -/
theorem vt_bl (h : VE X pa e Γ fun r Γ1 => PBo (fun Γ1 => QB true Γ1) (fun Γ1 => QB false Γ1) Γ1 r.fz) (he : ∀ whole, isTrue e X.env whole = (do let v ← whole; standAt e.pos; holding [v] (truthy v)) := by intro _; rfl) : VT X pa e Γ QB :=
  vt_val (h.mono fun r Γ1 q => by
    cases r with
    | d y => cases q with
      | @mk c h1 h2 =>
        cases c with
        | true => exact ⟨true, rfl, h1 rfl⟩
        | false => exact ⟨false, rfl, h2 rfl⟩
    | n y => cases y <;> cases q
    | s y => cases q) he
inductive PNeg (Q : Rs → Gm → Prop) (Γ : Gm) : Rs → Prop
  | mk {i : Int} : Q (.d (.int (-i))) Γ → PNeg Q Γ (.d (.int i))
theorem ve_neg' (h : VE X pa a Γ fun r Γ1 => PNeg Q Γ1 r.fz) : VE X pa (.UnaryOp .USub a pos) Γ Q := ve_neg (h.mono fun r Γ1 q => by
  generalize r.fz = r' at q
  cases q with | mk q => exact ⟨_, rfl, q⟩)
/-! ## displays -/
theorem rds0 {k : List D → Rs} (q : Q (k []) Γ) : RDs Q k [] Γ := ⟨[], rfl, by simp, q⟩
theorem rds1 {k : List D → Rs} {x1 : D} (q : Q (k [x1]) Γ) : RDs Q k [.d x1] Γ := ⟨[x1], rfl, by simp, q⟩
theorem rds2 {k : List D → Rs} {x1 x2 : D} (q : Q (k [x1, x2]) Γ) : RDs Q k [.d x1, .d x2] Γ := ⟨[x1, x2], rfl, by simp, q⟩
theorem rds3 {k : List D → Rs} {x1 x2 x3 : D} (q : Q (k [x1, x2, x3]) Γ) : RDs Q k [.d x1, .d x2, .d x3] Γ := ⟨[x1, x2, x3], rfl, by simp, q⟩
theorem rds4 {k : List D → Rs} {x1 x2 x3 x4 : D} (q : Q (k [x1, x2, x3, x4]) Γ) : RDs Q k [.d x1, .d x2, .d x3, .d x4] Γ := ⟨[x1, x2, x3, x4], rfl, by simp, q⟩
theorem rds5 {k : List D → Rs} {x1 x2 x3 x4 x5 : D} (q : Q (k [x1, x2, x3, x4, x5]) Γ) : RDs Q k [.d x1, .d x2, .d x3, .d x4, .d x5] Γ := ⟨[x1, x2, x3, x4, x5], rfl, by simp, q⟩
theorem rds6 {k : List D → Rs} {x1 x2 x3 x4 x5 x6 : D} (q : Q (k [x1, x2, x3, x4, x5, x6]) Γ) : RDs Q k [.d x1, .d x2, .d x3, .d x4, .d x5, .d x6] Γ := ⟨[x1, x2, x3, x4, x5, x6], rfl, by simp, q⟩
theorem g_rds {k : List D → Rs} {rs : List Rs} (h : RDs Q k rs Γ) : RDs Q k rs Γ := h
/-! ## methods of lists -/
theorem tl_mk {i : Nat} {ds : List D} (h : Γ[i]? = some (some (.o (.l ds)))) : TL (.s i) Γ := ⟨i, ds, rfl, h⟩
theorem g_tl (h : TL r Γ) : TL r Γ := h
theorem rapp_mk {i : Nat} {ds : List D} {y : D} (h : Γ[i]? = some (some (.o (.l ds)))) (hl : ds.length ≤ 100000) (q : Q (.d .non) (Γ.set i (some (.o (.l (ds ++ [y])))))) : RApp Q (.s i) [.d y] Γ := ⟨i, ds, y, rfl, rfl, h, hl, q⟩
theorem rext_mk {i : Nat} {ds xs : List D} (hx : rd Γ s = some (.lst xs)) (h : Γ[i]? = some (some (.o (.l ds)))) (hl : ds.length + xs.length ≤ 100000) (q : Q (.d .non) (Γ.set i (some (.o (.l (ds ++ xs)))))) : RExt Q (.s i) [s] Γ := ⟨i, ds, s, xs, rfl, rfl, hx, h, hl, q⟩
theorem rpop_mk {i j : Nat} {ds : List D} {k : Int} {y : D} (h : Γ[i]? = some (some (.o (.l ds)))) (hk : k = j) (hj : ds[j]? = some y) (hl : ds.length ≤ 100000) (q : Q (.d y) (Γ.set i (some (.o (.l (ds.eraseIdx j)))))) : RPopAt Q (.s i) [.d (.int k)] Γ := by
  have hj2 := (List.getElem?_eq_some_iff.mp hj).1
  subst hk
  exact ⟨i, ds, _, j, y, rfl, rfl, h, by omega, by omega, by unfold ixN; simp; omega, hj, q⟩
theorem pfld_mk {C : Addr} {fs : List (Str × D)} {y : D} (c : Cls X.K C) (n : NoAttr X.K C f) (l : fs.lookup f = some y) (q : Q (.d y) Γ) : PFld X.K f Q (.d (.ins C fs)) Γ := ⟨C, fs, y, rfl, c, n, l, q⟩
theorem g_meth (f : Str) (h : VE X pa (.Call (.Attribute o f apos) es [] cpos) Γ Q) : VE X pa (.Call (.Attribute o f apos) es [] cpos) Γ Q := h
theorem g_isi (x : Str) (h : VE X pa (.Call (.Name "isinstance" p) [a, .Name x p2] [] pos) Γ Q) : VE X pa (.Call (.Name "isinstance" p) [a, .Name x p2] [] pos) Γ Q := h
theorem g_attr (h : VE X pa (.Attribute o f apos) Γ Q) : VE X pa (.Attribute o f apos) Γ Q := h
theorem pisi_mk {Ty : String} {y : D} {n : String} {bb : Bool} (hx : rd Γ r = some y) (hn : y.tyN = some n) (hk : kitB n Ty = some bb) (q : Q (.d (.bl bb)) Γ) : PIsi Ty Q r (.d (.typ Ty)) Γ := ⟨y, n, bb, rfl, hx, hn, hk, q⟩
theorem kit_t {n Ty : String} (h : kitB n Ty = some true) : kitB n Ty = some true := h
theorem kit_f {n Ty : String} (h : kitB n Ty = some false) : kitB n Ty = some false := h
theorem g_pisi {Ty : String} (h : PIsi Ty Q r s Γ) : PIsi Ty Q r s Γ := h
/-! ## values kept for a store in a row -/
theorem noS_d {y : D} : noS (.d y) := trivial
theorem noS_n {y : C} : noS (.n y) := trivial
theorem sa_nil {P : Gm → Prop} (q : P Γ) : storedA Γ [] [] P := q
theorem sa_d {i : Nat} {is : List Nat} {rs : List Rs} {y : D} {P : Gm → Prop} (q : storedA (Γ.set i (some (.d y))) is rs P) : storedA Γ (i :: is) (.d y :: rs) P := q
theorem sa_n {i : Nat} {is : List Nat} {rs : List Rs} {y : C} {P : Gm → Prop} (q : storedA (Γ.set i (some (.o y))) is rs P) : storedA Γ (i :: is) (.n y :: rs) P := q
theorem g_vps {P : List Rs → Gm → Prop} (h : VPs X pa es Γ P) : VPs X pa es Γ P := h
theorem g_sa {is : List Nat} {rs : List Rs} {P : Gm → Prop} (h : storedA Γ is rs P) : storedA Γ is rs P := h
theorem g_nos (h : noS r) : noS r := h
theorem g_pbo {P1 P2 : Gm → Prop} (h : PBo P1 P2 Γ r) : PBo P1 P2 Γ r := h
theorem g_pneg (h : PNeg Q Γ r) : PNeg Q Γ r := h
theorem g_prev (h : PRevA Q r Γ) : PRevA Q r Γ := h
theorem g_rapp {rs : List Rs} (h : RApp Q r rs Γ) : RApp Q r rs Γ := h
theorem g_rext {rs : List Rs} (h : RExt Q r rs Γ) : RExt Q r rs Γ := h
end
/-- the type's name as a value -/
theorem ve_ty {X : Cx} {pa : Pin} {Γ : Gm} {Q : Rs → Gm → Prop} {pos : Pos} {x : Str} (T : String) (hg : Gl X x) (hm : X.mg x = none) (hv : bootBuiltins x = some (.type T)) (q : Q (.d (.typ T)) Γ) (hn : x ≠ "__name__" := by decide) (hd : (x == ("__debug__" : Str)) = false := by decide) : VE X pa (.Name x pos) Γ Q := ve_typ hg hm hv q hn hd
section
variable {X : Cx} {pa : Pin} {e : Expr} {es : List Expr} {Γ : Gm} {Q : Rs → Gm → Prop} {pos p : Pos} {x : Str} {rs : List Rs} {n : Nat} {sp : SpT} {T : En}
theorem g_calln (h : VE X pa (.Call (.Name x p) (e :: es) [] pos) Γ Q) : VE X pa (.Call (.Name x p) (e :: es) [] pos) Γ Q := h
theorem g_len (h : rs.length = n) : rs.length = n := h
theorem so0 (h : slotsOf rs = []) : SlotsOk Γ rs := by unfold SlotsOk; rw [h]; exact ⟨List.nodup_nil, fun j hj => by cases hj⟩
theorem so1 {i : Nat} {c : C} (h : slotsOf rs = [i]) (hi : Γ[i]? = some (some (.o c))) : SlotsOk Γ rs := by
  unfold SlotsOk; rw [h]
  exact ⟨by simp, fun j hj => by rw [List.mem_singleton] at hj; subst hj; exact ⟨c, hi⟩⟩
theorem so2 {i i2 : Nat} {c c2 : C} (h : slotsOf rs = [i, i2]) (ne : i ≠ i2) (hi : Γ[i]? = some (some (.o c))) (hi2 : Γ[i2]? = some (some (.o c2))) : SlotsOk Γ rs := by
  unfold SlotsOk; rw [h]
  refine ⟨by simp [ne], fun j hj => ?_⟩
  rcases List.mem_cons.mp hj with rfl | hj
  · exact ⟨c, hi⟩
  · rw [List.mem_singleton] at hj; subst hj; exact ⟨c2, hi2⟩
theorem pcall_mk (ok : SlotsOk Γ rs) (h : sp (rs.map (itOf Γ)) fun r its' => Q r (putB Γ rs its')) : PCall sp Q rs Γ := ⟨ok, h⟩
theorem g_pcall (h : PCall sp Q rs Γ) : PCall sp Q rs Γ := h
end
theorem bl_eq {R : Rs → List AV.It → Prop} {c c' : Bool} {l : List AV.It} (q : R (.d (.bl c)) l) (e : c = c') : R (.d (.bl c')) l := by subst e; exact q
theorem int_eq {R : Rs → List AV.It → Prop} {c c' : Int} {l : List AV.It} (q : R (.d (.int c)) l) (e : c = c') : R (.d (.int c')) l := by subst e; exact q
theorem pin1 {pa : Pin} {x : Str} {i : Nat} (h : pa i = none) : ∀ j ∈ List.map (·.2) [(x, i)], pa j = none := fun j hj => by
  have e : j = i := by simpa using hj
  subst e; exact h
theorem pin2 {pa : Pin} {x y : Str} {i i2 : Nat} (h : pa i = none) (h2 : pa i2 = none) : ∀ j ∈ List.map (·.2) [(x, i), (y, i2)], pa j = none := fun j hj => by
  have e : j = i ∨ j = i2 := by simpa using hj
  rcases e with e | e <;> subst e <;> assumption
section
variable {X : Cx} {pa : Pin} {elt c : Expr} {scope : Scope} {Γ1 Γw : Gm} {Q : Rs → Gm → Prop} {vs : List Nat} {put : D → Gm → Gm → Prop}
theorem lc_mB {β : Type} {xs : List D} (ns : List β) (e : β → D) (g : β → Bool) (hx : xs = ns.map e) (hl : ns.length ≤ 100000) (hw : wipeG Γ1 vs = Γw)
    (hs : ∀ n ∈ ns, ∃ Γ2, put (e n) Γw Γ2 ∧ InB X scope fun B => VE B pa elt Γ2 fun r Γ4 => r.fz = .d (.bl (g n)) ∧ wipeG Γ4 vs = Γw) (q : Q (.n (.l ((ns.map g).map D.bl))) Γw) : LcOk X pa scope elt [] vs put Q xs Γ1 :=
  lc_map ns e (fun n => .bl (g n)) hx hl hw hs (by rw [List.map_map] at q; exact q)
theorem lc_mI {β : Type} {xs : List D} (ns : List β) (e : β → D) (g : β → Int) (hx : xs = ns.map e) (hl : ns.length ≤ 100000) (hw : wipeG Γ1 vs = Γw)
    (hs : ∀ n ∈ ns, ∃ Γ2, put (e n) Γw Γ2 ∧ InB X scope fun B => VE B pa elt Γ2 fun r Γ4 => r.fz = .d (.int (g n)) ∧ wipeG Γ4 vs = Γw) (q : Q (.n (.l ((ns.map g).map D.int))) Γw) : LcOk X pa scope elt [] vs put Q xs Γ1 :=
  lc_map ns e (fun n => .int (g n)) hx hl hw hs (by rw [List.map_map] at q; exact q)
theorem lc_fI {β : Type} {xs : List D} (ns : List β) (e : β → D) (g : β → Int) (p : β → Bool) (hx : xs = ns.map e) (hl : ns.length ≤ 100000) (hw : wipeG Γ1 vs = Γw)
    (hs : ∀ n ∈ ns, ∃ Γ2, put (e n) Γw Γ2 ∧ (InB X scope fun B => VT B pa c Γ2 fun b Γ3 => b = p n ∧ Γ3 = Γ2) ∧ wipeG Γ2 vs = Γw ∧ (p n = true → InB X scope fun B => VE B pa elt Γ2 fun r Γ4 => r.fz = .d (.int (g n)) ∧ wipeG Γ4 vs = Γw)) (q : Q (.n (.l (((ns.filter p).map g).map D.int))) Γw) : LcOk X pa scope elt [c] vs put Q xs Γ1 :=
  lc_filt ns e (fun n => .int (g n)) p hx hl hw hs (by rw [List.map_map] at q; exact q)
theorem pbs_mk {g : List Bool → Bool} {bs : List Bool} {r : Rs} {Γ : Gm} (h : rd Γ r = some (.lst (bs.map D.bl))) (q : Q (.d (.bl (g bs))) Γ) : PBs g Q r Γ := ⟨bs, h, q⟩
theorem g_pbs {g : List Bool → Bool} {r : Rs} {Γ : Gm} (h : PBs g Q r Γ) : PBs g Q r Γ := h
end
section
variable {X : Cx} {pa : Pin} {e : Expr} {Γ : Gm} {T : En} {pos : Pos}
theorem vs_add (i : Nat) {x : Str} {pos' : Pos} {m : Int} (hN : X.N.Nodup) (hi : X.N[i]? = some x) (hx : Loc X.env.scope x) (hp : pa i = none) (hm : Γ[i]? = some (some (.d (.int m))))
    (h : VE X pa e Γ fun r Γ1 => PI1 (fun n => m + n) (fun r Γ1 => stored Γ1 i r T.nx) r.fz Γ1) (hf : X.fn x = true ∨ X.env.scope.names.lookup x = some .local := by first | exact .inl rfl | exact .inr rfl | assumption) : VS X pa (.AugAssign (.Name x pos') .Add e pos) Γ T :=
  vs_aug hN hi hx hp ip_add hm (h.mono fun r Γ1 ⟨n, h1, h2⟩ => ⟨n, h1, h2⟩) hf
theorem vs_sub (i : Nat) {x : Str} {pos' : Pos} {m : Int} (hN : X.N.Nodup) (hi : X.N[i]? = some x) (hx : Loc X.env.scope x) (hp : pa i = none) (hm : Γ[i]? = some (some (.d (.int m))))
    (h : VE X pa e Γ fun r Γ1 => PI1 (fun n => m - n) (fun r Γ1 => stored Γ1 i r T.nx) r.fz Γ1) (hf : X.fn x = true ∨ X.env.scope.names.lookup x = some .local := by first | exact .inl rfl | exact .inr rfl | assumption) : VS X pa (.AugAssign (.Name x pos') .Sub e pos) Γ T :=
  vs_aug hN hi hx hp ip_sub hm (h.mono fun r Γ1 ⟨n, h1, h2⟩ => ⟨n, h1, h2⟩) hf
end
/-! ## dicts told by keys -/
section
variable {κ : Type} [DecidableEq κ]
theorem dv_dp {ds : List (κ × D)} {k k' : κ} {x : D} : dv (dp ds k x) k' = if k' = k then some x else dv ds k' := by
  unfold dp
  split
  · rename_i h
    by_cases e : k' = k
    · subst e
      rw [if_pos rfl]
      have key : ∀ ds : List (κ × D), (ds.any fun kv => decide (kv.1 = k')) = true → dv (ds.map fun kv => if kv.1 = k' then (kv.1, x) else kv) k' = some x := by
        intro ds
        induction ds with
        | nil => intro h; simp at h
        | cons kv ds ih =>
          intro h
          by_cases e : kv.1 = k'
          · simp [dv, e]
          · simp [e] at h
            have := ih (by simpa using h)
            simpa [dv, e] using this
      exact key ds h
    · rw [if_neg e]
      have key : ∀ ds : List (κ × D), dv (ds.map fun kv => if kv.1 = k then (kv.1, x) else kv) k' = dv ds k' := by
        intro ds
        induction ds with
        | nil => rfl
        | cons kv ds ih =>
          by_cases e1 : kv.1 = k
          · have e2 : ¬ k = k' := fun z => e z.symm
            have e3 : ¬ kv.1 = k' := by rw [e1]; exact e2
            simpa [dv, e1, e2, e3] using ih
          · by_cases e2 : kv.1 = k'
            · rw [List.map_cons, if_neg e1]
              simp [dv, e2]
            · simpa [dv, e1, e2] using ih
      exact key ds
  · rename_i h
    by_cases e : k' = k
    · subst e
      rw [if_pos rfl]
      have hn : ds.find? (fun kv => decide (kv.1 = k')) = none := by
        rw [List.find?_eq_none]
        intro y hy hz
        exact h (List.any_eq_true.mpr ⟨y, hy, hz⟩)
      simp [dv, List.find?_append, hn]
    · rw [if_neg e]
      have e2 : ¬ k = k' := fun z => e z.symm
      cases q : ds.find? (fun kv => decide (kv.1 = k')) with
      | none => simp [dv, List.find?_append, q, e2]
      | some y => simp [dv, List.find?_append, q]
theorem dp_length {ds : List (κ × D)} {k : κ} {x : D} : (dp ds k x).length ≤ ds.length + 1 := by
  unfold dp
  split <;> simp
end
section
variable {X : Cx} {pa : Pin} {a : Expr} {Γ : Gm} {Q : Rs → Gm → Prop} {pos : Pos} {r : Rs}
theorem callr_or {f : Value} {r1 r2 : List V → Hp → VK → Prop} (h1 : CallR X f r1) (h2 : CallR X f r2) : CallR X f fun xs H Q => r1 xs H Q ∨ r2 xs H Q := fun pins s σ H xs us Q I r h =>
  h.elim (h1 pins s σ H xs us Q I r) (h2 pins s σ H xs us Q I r)
inductive PLen (Q : Rs → Gm → Prop) (r : Rs) (Γ : Gm) : Prop
  | seq {ds : List D} : sq Γ r = some ds → Q (.d (.int (ds.length : Nat))) Γ → PLen Q r Γ
  | dct {ds : List (Key × D)} : rd Γ r = some (.dct ds) → Q (.d (.int (ds.length : Nat))) Γ → PLen Q r Γ
theorem g_plenA (h : PLen Q r Γ) : PLen Q r Γ := h
theorem ve_lenA {p : Pos} (hg : Gl X "len") (hm : X.mg "len" = none) (h : VE X pa a Γ fun r Γ1 => PLen Q r.fz Γ1) (he : S1 X a := by rfl) (hpl : NoStar X pos [] := by rfl) : VE X pa (.Call (.Name "len" p) [a] [] pos) Γ Q :=
  ve_call1 (PLen Q) (pe_callB (callr_or call_len_seq call_lenD) hg hm PySem.boot_len pa_tw (he := he) (hpl := hpl)) h he fun F σ H G0 G Γ α v r ee S c q => by
    cases q with
    | seq hd q =>
      obtain ⟨a, ws, rfl, hq, ra⟩ := c.seq S hd
      exact .inl ⟨a, ws, rfl, hq, .trans ee (by rw [ra.length]; exact goal_int S q)⟩
    | dct hd q =>
      have h1 := c.look S hd
      cases h1 with
      | dct ha hk hr =>
        refine .inr ⟨_, _, rfl, ha, .trans ee ?_⟩
        have el := congrArg List.length hk
        rw [List.length_map, List.length_map] at el
        rw [el]
        exact goal_int S q
end
end AV
set_option Elab.async false
set_option linter.all false
set_option maxRecDepth 100000
set_option maxHeartbeats 4000000
namespace AV
open PySem PySem.Spec PyProof.Rows L2
section
variable {K : PySem.W.Frag} {pa : Pin} {F : Hp} {σ : L2.St} {H H' G G' : Hp} {Γ Γ' : Gm} {α : Nat → Addr}
theorem RvA.grow (e : Ex H H') : ∀ {vs : List V} {rs : List Rs}, RvA K F σ H G Γ α vs rs → RvA K F σ H' G Γ α vs rs
  | [], [], .nil => .nil
  | v :: vs, r :: rs, .cons _ _ _ _ rv nd t => by
    refine .cons _ _ _ _ ?_ nd (RvA.grow e t)
    cases r with
    | d x => exact rv
    | s i => exact rv
    | n c => obtain ⟨p, ho, e1, e2, e3, e4, e5, e6⟩ := rv; exact ⟨p, ho, e1, e2, e3, e4, e _ _ e5, e6⟩
end
section
variable {X : Cx} {pa : Pin} {e a b c o : Expr} {es : List Expr} {Γ Γ' : Gm} {Q Q' : Rs → Gm → Prop} {T : En} {pos p1 p2 p3 apos cpos : Pos}
/-- x, y = (a, b) by a tuple that is taken apart (a cell among the names) -/
theorem vs_unp2 {i j : Nat} {x y : Str} {px py pt : Pos} {kt : Nat} {k2 : Nat} {pt2 : Pos} (hc : X.calm = true) (hN : X.N.Nodup) (hi : X.N[i]? = some x) (hj : X.N[j]? = some y)
    (hx : Loc X.env.scope x) (hy : Loc X.env.scope y) (hpi : pa i = none) (hpj : pa j = none)
    (h : VPs X pa [a, b] Γ fun rs Γ2 => rs.length = 2 ∧ storedA Γ2 [i, j] rs T.nx)
    (hw : swappedStores [.Tuple [.Name x px, .Name y py] kt pt] (.Tuple [a, b] k2 pt2) X.env = pure none := by rfl)
    (hs : swapsWithSole [.Tuple [.Name x px, .Name y py] kt pt] (.Tuple [a, b] k2 pt2) pos.line X.env = pure false := by rfl)
    (h1 : (assignEach [.Tuple [.Name x px, .Name y py] kt pt] X.env).map (·.2) = [assign (.Tuple [.Name x px, .Name y py] kt pt) X.env] := by rfl)
    (hf : X.fn x = true ∨ X.env.scope.names.lookup x = some .local := by first | exact .inl rfl | exact .inr rfl | assumption) (hf2 : X.fn y = true ∨ X.env.scope.names.lookup y = some .local := by first | exact .inl rfl | exact .inr rfl | assumption) :
    VS X pa (.Assign [.Tuple [.Name x px, .Name y py] kt pt] (.Tuple [a, b] k2 pt2) pos) Γ T := fun F σ H G S => by
  refine twS_of (ps_asg (pe_tup pa_tw) (pg_tup (n := 2) hc (pgs_cons (pg_name hN hi hx hf) (pgs_cons (pg_name hN hj hy hf2) pgs_nil))) hs hw h1) ?_
  refine (h F σ H G S).mono fun vs H1 ⟨G1, Γ1, rs, α, e1, S1, ra, hn, hl, q⟩ => ?_
  have hlen := ra.length
  rw [hl] at hlen
  match vs, hlen, ra with
  | [v, w], _, ra =>
    refine ⟨by show 2 ≤ sizeLine; decide, fun p hp => ?_⟩
    have eg : Ex H1 (upd H1 p (.tup [v, w])) := Ex.new hp
    obtain ⟨Γ2, S2, q2⟩ := store_all (is := [i, j]) (fun k hk => by simp at hk; rcases hk with rfl | rfl <;> assumption) hn (S1.grow eg) (ra.grow eg) q
    exact ⟨p, [v, w], rfl, SqT.of upd_same, rfl, _, _, rfl, _, _, rfl, rfl, G1, Γ2, e1, S2, q2⟩
theorem vs_unp3 {i j l : Nat} {x y z : Str} {px py pz pt : Pos} {kt : Nat} {k2 : Nat} {pt2 : Pos} (hc : X.calm = true) (hN : X.N.Nodup) (hi : X.N[i]? = some x) (hj : X.N[j]? = some y) (hl3 : X.N[l]? = some z)
    (hx : Loc X.env.scope x) (hy : Loc X.env.scope y) (hz : Loc X.env.scope z) (hpi : pa i = none) (hpj : pa j = none) (hpl : pa l = none)
    (h : VPs X pa [a, b, c] Γ fun rs Γ2 => rs.length = 3 ∧ storedA Γ2 [i, j, l] rs T.nx)
    (hw : swappedStores [.Tuple [.Name x px, .Name y py, .Name z pz] kt pt] (.Tuple [a, b, c] k2 pt2) X.env = pure none := by rfl)
    (hs : swapsWithSole [.Tuple [.Name x px, .Name y py, .Name z pz] kt pt] (.Tuple [a, b, c] k2 pt2) pos.line X.env = pure false := by rfl)
    (h1 : (assignEach [.Tuple [.Name x px, .Name y py, .Name z pz] kt pt] X.env).map (·.2) = [assign (.Tuple [.Name x px, .Name y py, .Name z pz] kt pt) X.env] := by rfl)
    (hf : X.fn x = true ∨ X.env.scope.names.lookup x = some .local := by first | exact .inl rfl | exact .inr rfl | assumption) (hf2 : X.fn y = true ∨ X.env.scope.names.lookup y = some .local := by first | exact .inl rfl | exact .inr rfl | assumption) (hf3 : X.fn z = true ∨ X.env.scope.names.lookup z = some .local := by first | exact .inl rfl | exact .inr rfl | assumption) :
    VS X pa (.Assign [.Tuple [.Name x px, .Name y py, .Name z pz] kt pt] (.Tuple [a, b, c] k2 pt2) pos) Γ T := fun F σ H G S => by
  refine twS_of (ps_asg (pe_tup pa_tw) (pg_tup (n := 3) hc (pgs_cons (pg_name hN hi hx hf) (pgs_cons (pg_name hN hj hy hf2) (pgs_cons (pg_name hN hl3 hz hf3) pgs_nil)))) hs hw h1) ?_
  refine (h F σ H G S).mono fun vs H1 ⟨G1, Γ1, rs, α, e1, S1, ra, hn, hl, q⟩ => ?_
  have hlen := ra.length
  rw [hl] at hlen
  match vs, hlen, ra with
  | [v, w, u], _, ra =>
    refine ⟨by show 3 ≤ sizeLine; decide, fun p hp => ?_⟩
    have eg : Ex H1 (upd H1 p (.tup [v, w, u])) := Ex.new hp
    obtain ⟨Γ2, S2, q2⟩ := store_all (is := [i, j, l]) (fun k hk => by simp at hk; rcases hk with rfl | rfl | rfl <;> assumption) hn (S1.grow eg) (ra.grow eg) q
    exact ⟨p, [v, w, u], rfl, SqT.of upd_same, rfl, _, _, rfl, _, _, rfl, _, _, rfl, rfl, G1, Γ2, e1, S2, q2⟩
/-- x, y = a pair that is told as data -/
theorem vs_pair {i j : Nat} {x y : Str} {px py pt : Pos} {kt : Nat} (hc : X.calm = true) (hN : X.N.Nodup) (hi : X.N[i]? = some x) (hj : X.N[j]? = some y)
    (hx : Loc X.env.scope x) (hy : Loc X.env.scope y) (hpi : pa i = none) (hpj : pa j = none)
    (h : VE X pa e Γ fun r Γ1 => ∃ u w, r.fz = .d (.tup [u, w]) ∧ T.nx ((Γ1.set i (some (.d u))).set j (some (.d w))))
    (hw : swappedStores [.Tuple [.Name x px, .Name y py] kt pt] e X.env = pure none := by rfl)
    (hs : swapsWithSole [.Tuple [.Name x px, .Name y py] kt pt] e pos.line X.env = pure false := by rfl)
    (h1 : (assignEach [.Tuple [.Name x px, .Name y py] kt pt] X.env).map (·.2) = [assign (.Tuple [.Name x px, .Name y py] kt pt) X.env] := by rfl)
    (hf : X.fn x = true ∨ X.env.scope.names.lookup x = some .local := by first | exact .inl rfl | exact .inr rfl | assumption) (hf2 : X.fn y = true ∨ X.env.scope.names.lookup y = some .local := by first | exact .inl rfl | exact .inr rfl | assumption) :
    VS X pa (.Assign [.Tuple [.Name x px, .Name y py] kt pt] e pos) Γ T := fun F σ H G S => by
  refine twS_of (ps_asg pe_tw (pg_tup (n := 2) hc (pgs_cons (pg_name hN hi hx hf) (pgs_cons (pg_name hN hj hy hf2) pgs_nil))) hs hw h1) ?_
  refine (h F σ H G S).mono fun v H1 ⟨G1, Γ1, r, e1, S1, u, w, er, q⟩ => ?_
  obtain ⟨G2, e2, S2⟩ := S1.fz
  have cv := S2.cv
  rw [er] at cv
  obtain ⟨α, S3, _⟩ := S2
  have h2 : Re X.K G2 v (.tup [u, w]) := cv
  cases h2 with
  | tup ha hr =>
    cases hr with
    | cons r1 t =>
      cases t with
      | cons r2 t =>
        cases t
        exact ⟨_, _, rfl, SqT.of (S3.ext _ _ ha), rfl, _, _, rfl, _, _, rfl, rfl, G2, _, e1.trans e2, ⟨α, (S3.setD hpi r1).setD hpj r2⟩, q⟩
end
section
variable {P : Program} {w : World} {K : PySem.W.Frag} {mg : Str → Option Value} {base : Heap}
/-- __init__ of a class, by its body -/
theorem makv0 {x qual : Str} {Cl : Addr} {st : Stmt} {f : Addr} {fd : FuncData} {N ps : List Str} {k n : Nat} {sp : SpT} (M : Mk K Cl f) (F : Fun K "__init__" qual st f fd) (hm : mg x = some (.ref Cl)) (b : Binds K fd ps []) (hn : ps.length = n + 1) (S : FnScope N ps (defScope st))
    (hbody : ∀ (cdv : Value) (A : Around) (outer : List Env) (s : Shared) (H : Hp) (E : XK) (its : List AV.It) (α : Nat → Addr) (R : Rs → List AV.It → Prop), Room k (A.deeper (envOfC qual (defScope st) s.heap.objs.size f cdv)) → (A.deeper (envOfC qual (defScope st) s.heap.objs.size f cdv)).guards = some [] → sp its R →
      VB (bcx P w K mg base N qual st f cdv A outer s H E) (pinI its α) (defBody st) (gm0 N its) (endOf (pinI its α) its R)) : MakV P w K mg base (k + 1) x Cl n sp :=
  ⟨f, fd, ps, M, fnv0 F S hbody, hm, b, hn⟩
end
section
variable {X : Cx} {pa : Pin} {e : Expr} {es : List Expr} {Γ : Gm} {Q : Rs → Gm → Prop} {QG : Gm → Prop} {pos p : Pos} {x f : Str} {rs : List Rs} {sp : SpT} {T : En} {Cl : Addr} {r : Rs}
theorem nx_end {its : List AV.It} {R : Rs → List AV.It → Prop} (h : R (.d .non) (outI its Γ)) : (endOf pa its R).nx Γ := h
theorem pfst_mk {i : Nat} {y : D} {fs : List (Str × D)} (h : Γ[i]? = some (some (.o (.i Cl fs)))) (c : Cls X.K Cl) (n : NoAttr X.K Cl f) (hl : fs.length < 1000) (q : QG (Γ.set i (some (.o (.i Cl (putD f y fs)))))) : PFst X.K f i QG (.d y) Γ := ⟨y, Cl, fs, rfl, h, c, n, hl, q⟩
theorem g_pfst {i : Nat} (h : PFst X.K f i QG r Γ) : PFst X.K f i QG r Γ := h
theorem pmake_mk (ok : SlotsOk Γ rs) (h : sp (.o (.i Cl []) :: rs.map (itOf Γ)) fun r its' => ∃ fs its2, r = .d .non ∧ its' = .o (.i Cl fs) :: its2 ∧ Q (.n (.i Cl fs)) (putB Γ rs its2)) : PMake Cl sp Q rs Γ := ⟨ok, h⟩
theorem g_pmake (h : PMake Cl sp Q rs Γ) : PMake Cl sp Q rs Γ := h
theorem g_fset {o : Expr} {p' : Pos} (h : VS X pa (.Assign [.Attribute o f p'] e pos) Γ T) : VS X pa (.Assign [.Attribute o f p'] e pos) Γ T := h
end
theorem g_pfld {X : Cx} {Q : Rs → Gm → Prop} {Γ : Gm} {f : Str} {r : Rs} (h : PFld X.K f Q r Γ) : PFld X.K f Q r Γ := h
theorem ixN_in {m : Nat} {n : Int} (h0 : 0 ≤ n) (h1 : n < m) : ixN m n = some n.toNat := by unfold ixN; rw [if_pos h0, if_pos h1]
theorem rep_one {α : Type} (n : Nat) (x : α) : (List.replicate n [x]).flatten = List.replicate n x := by
  induction n with
  | zero => rfl
  | succ n ih => rw [List.replicate_succ, List.flatten_cons, ih, List.replicate_succ]; rfl
theorem rep_ints (n : Nat) (x : Int) : List.replicate n (D.int x) = (List.replicate n x).map D.int := by rw [List.map_replicate]
section
variable {X : Cx} {pa : Pin} {a : Expr} {es : List Expr} {Γ : Gm} {Q : Rs → Gm → Prop} {pos p p2 pos2 : Pos} {r : Rs} {x : Str}
theorem g_ofrg (x : Str) (h : VE X pa (.Call (.Name x p) [.Call (.Name "range" p2) [a] [] pos2] [] pos) Γ Q) : VE X pa (.Call (.Name x p) [.Call (.Name "range" p2) [a] [] pos2] [] pos) Γ Q := h
theorem prg_mk {f : List D → Rs} {n : Int} (h0 : 0 ≤ n) (h1 : n ≤ 16777216) (q : Q (f ((rgI 0 n).map D.int)) Γ) : PRg Q f (.d (.int n)) Γ := ⟨n, rfl, h0, h1, by rw [rgD_I]; exact q⟩
theorem g_prg {f : List D → Rs} (h : PRg Q f r Γ) : PRg Q f r Γ := h
theorem g_make0 (h : VE X pa (.Call (.Name x p) [] [] pos) Γ Q) : VE X pa (.Call (.Name x p) [] [] pos) Γ Q := h
theorem prev_tup {ns : List Int} (h : rd Γ r = some (.tup (ns.map D.int))) (q : Q (.d (.tup (ns.reverse.map D.int))) Γ) : PRevA Q r Γ := .tup h (by rw [List.map_reverse] at q; exact q)
theorem prev_lst {ns : List Int} (h : rd Γ r = some (.lst (ns.map D.int))) (q : Q (.n (.l (ns.reverse.map D.int))) Γ) : PRevA Q r Γ := .lst h (by rw [List.map_reverse] at q; exact q)
end
end AV
set_option Elab.async false
set_option linter.all false
set_option maxRecDepth 100000
set_option maxHeartbeats 4000000
namespace AV
open PySem PySem.Spec PyProof.Rows L2
section
variable {X : Cx} {pa : Pin} {a b : Expr} {es : List Expr} {Γ : Gm} {Q : Rs → Gm → Prop} {pos p : Pos} {r s : Rs} {x : Str}
theorem g_one (x : Str) (h : VE X pa (.Call (.Name x p) [a] [] pos) Γ Q) : VE X pa (.Call (.Name x p) [a] [] pos) Γ Q := h
theorem g_two (x : Str) (h : VE X pa (.Call (.Name x p) [a, b] [] pos) Γ Q) : VE X pa (.Call (.Name x p) [a, b] [] pos) Γ Q := h
theorem pi2_mk {g : Int → Int → Int} {i j : Int} (q : Q (.d (.int (g i j))) Γ) : PI2 g Q (.d (.int i)) (.d (.int j)) Γ := ⟨i, j, rfl, rfl, q⟩
theorem g_pi2 {g : Int → Int → Int} (h : PI2 g Q r s Γ) : PI2 g Q r s Γ := h
theorem eqv_int (i j : Int) : PyData.eqv (D.int i).py (D.int j).py = decide (i = j) := by simp [D.py, PyData.eqv, Bool.beq_eq_decide_eq]
theorem rindex_I {ns : List Int} {n : Int} (h : rd Γ r = some (.lst (ns.map D.int))) (hn : n ∈ ns) (q : Q (.d (.int (ns.idxOf n : Nat))) Γ) : RIndex Q r [.d (.int n)] Γ := by
  have hi : ns.idxOf n < ns.length := List.idxOf_lt_length_of_mem hn
  refine ⟨ns.map D.int, .d (.int n), .int n, ns.idxOf n, rfl, h, rfl, fit_lst _, fit_int _, ⟨.int n, ?_, ?_⟩, fun m z' hm hz => ?_, q⟩
  · rw [List.getElem?_map, List.getElem?_eq_getElem hi, List.getElem_idxOf hi]; rfl
  · rw [eqv_int]; simp
  · rw [List.getElem?_map, List.getElem?_eq_getElem (by omega)] at hz
    have hz := Option.some.inj hz
    subst hz
    rw [eqv_int, decide_eq_false_iff_not]
    intro e
    have h2 := List.not_of_lt_findIdx (p := (· == n)) (xs := ns) hm
    simp [e] at h2
theorem maxL_mem : ∀ (ns : List Int) (n : Int), maxL n ns ∈ n :: ns
  | [], n => by simp [maxL]
  | m :: ns, n => by
    have ih := maxL_mem ns (max n m)
    show maxL (max n m) ns ∈ _
    rcases List.mem_cons.mp ih with e | e
    · rw [e]
      by_cases h : n ≤ m
      · rw [Int.max_eq_right h]; simp
      · rw [Int.max_eq_left (by omega)]; simp
    · simp [e]
theorem maxL_le : ∀ (ns : List Int) (n : Int), n ≤ maxL n ns ∧ ∀ k ∈ ns, k ≤ maxL n ns
  | [], n => by simp [maxL]
  | m :: ns, n => by
    have ih := maxL_le ns (max n m)
    show n ≤ maxL (max n m) ns ∧ _
    have h1 : n ≤ max n m := Int.le_max_left _ _
    have h2 : m ≤ max n m := Int.le_max_right _ _
    refine ⟨Int.le_trans h1 ih.1, fun k hk => ?_⟩
    rcases List.mem_cons.mp hk with rfl | hk
    · exact Int.le_trans h2 ih.1
    · exact ih.2 k hk
theorem pmm_mk {g : Int → List Int → Int} {n : Int} {ns : List Int} (h : sq Γ r = some ((n :: ns).map D.int)) (q : Q (.d (.int (g n ns))) Γ) : PMm g Q r Γ := ⟨n, ns, h, q⟩
end
end AV
set_option Elab.async false
set_option linter.all false
set_option maxRecDepth 100000
set_option maxHeartbeats 4000000
namespace AV
open PySem PySem.Spec PyProof.Rows L2
/-! ## the end: the head's facts by names -/
/-- what isinstance asks of an own class, beside Cls -/
def insB (K : PySem.W.Frag) (x : Str) : Bool :=
  decide (PySem.W.findIn K (.ref (He.ga K x)) "__class__" = some (some (.builtin "object.__class__"))) &&
  (decide (PySem.W.specialIn K (.builtin "object.__class__") "__get__" = some (some (.builtin "getset_descriptor.__get__"))) &&
  (decide (PySem.W.takesIn K (.builtin "object.__class__") = some true) &&
  (decide (PySem.W.mroIn K (He.ga K x) (.type "object") = some true) && decide (PySem.W.kitOne K (.ref (He.ga K x)) (.ref (He.ga K x)) = some true))))
theorem insB_ok {K : PySem.W.Frag} {x : Str} (h : insB K x = true) (c : Cls K (He.ga K x)) : ClsOk K (He.ga K x) := by
  unfold insB at h
  simp only [Bool.and_eq_true, decide_eq_true_eq] at h
  obtain ⟨h1, h2, h3, h4, h5⟩ := h
  exact ⟨c, h1, h2, h3, h4, h5⟩
/-- a def by its name -/
def dfF (x : Str) (st : Stmt) : He.DefD := ⟨(x, none), x, x, defArgs st, defBody st, defScope st, [], []⟩
/-- a method -/
def dfM (C m q : Str) (st : Stmt) : He.DefD := ⟨(C, some m), m, q, defArgs st, defBody st, defScope st, [], []⟩
theorem fun_ofD {K : PySem.W.Frag} {x qual : Str} {st : Stmt} {f : Addr} {fd : FuncData} {kws : List (Str × V)} (F : FunD K x qual (defArgs st) (defBody st) (defScope st) [] kws f fd) : L2.Fun K x qual st f fd := by
  obtain ⟨oc, od, dV, kV, doc, pm, an, cdv, ct, osl, e, lk, hcd, hD, hK⟩ := F.ex
  have e2 : dV = .none := by
    rcases hD with ⟨_, z⟩ | ⟨z, _⟩
    · exact z
    · exact absurd rfl z
  subst e2
  exact ⟨⟨oc, od, kV, doc, pm, an, cdv, ct, osl, e, lk, hcd⟩, F.kp⟩
theorem def_of {fa : List He.Fa} {fn : List He.DefD} {K : PySem.W.Frag} (c : He.SaysD fa fn K) (i : Nat) {x : Str} {st : Stmt} (h : fn[i]? = some (dfF x st)) : ∃ fd, L2.Fun K x x st (He.ga K x) fd := by
  obtain ⟨fd, F⟩ := c.def_ i h
  exact ⟨fd, fun_ofD F⟩
theorem met_of {fa : List He.Fa} {fn : List He.DefD} {K : PySem.W.Frag} (c : He.SaysD fa fn K) (i : Nat) {C m q : Str} {st : Stmt} (h : fn[i]? = some (dfM C m q st)) : ∃ fd, L2.Fun K m q st (He.ma K (He.ga K C) m) fd := by
  obtain ⟨fd, F⟩ := c.def_ i h
  exact ⟨fd, fun_ofD F⟩
theorem law_callC {P : Program} {w : World} {K : PySem.W.Frag} {mg mb : Str → Option Value} {k : Nat} {fa a : Addr} {x : Str} {s₁ : Shared} {vs : List Value} {ns : List Int}
    (KX : K.In s₁.heap) (hns : s₁.heap.Ns mainGlobals mg) (hb : s₁.heap.Ns builtinsNs mb) (hbb : ∀ x : Str, x ≠ "__name__" → mb x = bootBuiltins x) (hlim : s₁.heap.NoLimit) (hg : s₁.gens = #[])
    (ha : s₁.heap.get? a = some { cls := .type "list", data := .seq vs.toArray }) (hi : IntsAre vs ns) (hl : ns.length ≤ sizeLine) (hr : Room k callerA)
    (hmx : mg x = some (.ref fa)) (F : ∀ base : Heap, K.In base → base.Ns mainGlobals mg → CalV P w K mg base k x 1 spLaw) (hl63 : ns.length ≤ 63) :
    codeAny (model P w) callerA (.call (.ref fa) ⟨[.ref a], []⟩) (fun r s' => r = .ok (.ret (.bool true)) ∧ OldK s₁.heap s'.heap ∧ s'.os = s₁.os ∧ AllBare s'.gens) s₁ := by
  have rv := vals_ints hi
  have lenV := hi.length
  have core : ∀ H : Hp, Only H → SqL K H a (ns.map V.int) → HOk P w H s₁.heap → (∀ b, H b ≠ none → b = a) → (H a ≠ none → K.lookup a = none) →
      codeAny (model P w) callerA (.call (.ref fa) ⟨[.ref a], []⟩) (fun r s' => r = .ok (.ret (.bool true)) ∧ OldK s₁.heap s'.heap ∧ s'.os = s₁.os ∧ AllBare s'.gens) s₁ := by
    intro H hO hS hok hA hK
    have base_of : ∀ {b : Addr} {o : Obj}, s₁.heap.get? b = some o → H b = none → (hidT s₁.heap H).get? b = some o := fun e n => hidT_get e n
    have noA : ∀ {b : Addr} {o : Obj} {es : Array DictEntry} {ep : Nat}, s₁.heap.get? b = some o → o.data = .dict es ep → H b = none := fun {b o es ep} e d => by
      cases q : H b with
      | none => rfl
      | some u =>
        have e' : b = a := hA b (by rw [q]; simp)
        subst e'
        rw [ha] at e; cases e
        have d' : Data.seq vs.toArray _ = Data.dict es ep := d
        cases d'
    have nsK : ∀ {b : Addr} {m : Str → Option Value}, s₁.heap.Ns b m → (hidT s₁.heap H).Ns b m := fun {b m} ⟨o, es, ep, e, d, r⟩ => ⟨o, es, ep, base_of e (noA e d), d, r⟩
    have hKb : K.In (hidT s₁.heap H) := fun b o e => base_of (KX b o e) (by
      cases q : H b with
      | none => rfl
      | some u =>
        have e' : b = a := hA b (by rw [q]; simp)
        subst e'
        rw [hK (by rw [q]; simp)] at e; cases e)
    have hM : Mod K mg (hidT s₁.heap H) := ⟨hKb, nsK hns, ⟨mb, nsK hb, hbb⟩, let ⟨mc, h1, h2⟩ := hlim; ⟨mc, nsK h1, h2⟩⟩
    have e0 : Env0 P w K mg (hidT s₁.heap H) callerA [] s₁ H := ⟨rfl, hM, fun b o e => of_hidT e, Nat.le_of_eq (hidT_size _ _), trivial, fun b hb => absurd (show b ∈ ([] : List Addr) from hb) (by simp), hok, .of_eq hg⟩
    obtain ⟨f, fd, ps, Fn, hmf, hkf, hbf, hps⟩ := (F _ hKb (nsK hns)).ex
    rw [hmx] at hmf; cases hmf
    have hb1 := hbf s₁ [.ref a] KX (by rw [hps]; rfl)
    rw [List.append_nil] at hb1
    have h0 : SpV K ps.length spLaw [.ref a] H (fun v _ => v = .bl true) fun _ _ _ => False := by rw [hps]; exact law_start hl63 hS
    refine codeAny_mono (Fn.run callerA [] s₁ H ⟨[.ref a], []⟩ [.ref a] [.ref a] _ _ hr rfl e0 hb1 (.cons rfl .nil) h0) fun r s' h => ?_
    cases r with
    | error e => exact False.elim h
    | ok fl =>
      cases fl with
      | next => exact False.elim h
      | brk => exact False.elim h
      | cont => exact False.elim h
      | ret u =>
        obtain ⟨v, H', os, bare, un, hok', r', q⟩ := h
        have q' : v = .bl true := q
        subst q'
        obtain rfl : u = Value.bool true := r'
        refine ⟨rfl, OldK.of_keep fun b o e => ?_, os, bare⟩
        cases q : H b with
        | none => exact un.keep b o e q (by intro z; exact absurd (show b ∈ ([] : List Addr) from z) (by simp)) (by simp)
        | some u =>
          rcases hO b with z | ⟨ob, xs, z⟩
          · rw [q] at z; cases z
          · have z2 := un.frzs b ob _ z
            obtain ⟨e1, _⟩ := hok b _ z
            obtain ⟨e2, _⟩ := hok' b _ z2
            rw [e] at e1; cases e1
            exact e2
  cases hk : K.lookup a with
  | some o =>
    have e := KX a o hk
    rw [ha] at e
    cases e
    refine core (fun _ => none) (fun _ => .inl rfl) (.inr ⟨_, vs.toArray, _, hk, rfl, rfl, rfl, by rw [List.size_toArray, lenV]; exact hl, by simpa using rv⟩) (fun b u z => by have z' : (none : Option HO) = some u := z; cases z') (fun b z => absurd rfl z) fun z => absurd rfl z
  | none =>
    refine core (fun b => if b = a then some (.frz { cls := .type "list", data := .seq vs.toArray } (.lst (ns.map V.int))) else none) (fun b => ?_) (.inl (.inr ⟨{ cls := .type "list", data := .seq vs.toArray }, if_pos rfl⟩)) (fun b u z => ?_) (fun b z => ?_) fun _ => hk
    · by_cases hb : b = a
      · exact .inr ⟨_, _, if_pos hb⟩
      · exact .inl (if_neg hb)
    · by_cases hb : b = a
      · have z' := (if_pos hb).symm.trans z
        cases z'
        subst hb
        exact ⟨ha, by rw [List.length_map]; exact hl, vs, _, rv, ha⟩
      · have z' := (if_neg hb).symm.trans z
        cases z'
    · by_cases hb : b = a
      · exact hb
      · exact absurd (if_neg hb) z
/-- a law whose defs make no lambda -/
theorem walk_ofEC {l : PySem.W.OpenLaw} {n k : Nat} {q : Program} {loose : List Str} {XP : (Str → Option Value) → Heap → Prop} {YP : World → Heap → Prop} {d : DefRec}
    (hn : l.most = some n) (hn2 : n ≤ 63) (hdf : d.params.defaults = []) (hr : Room k callerA)
    (F : ∀ (w : World) (mg : Str → Option Value) (h : Heap), YP w h → h.Ns mainGlobals mg →
      ∃ K : PySem.W.Frag, K.In h ∧ ∀ base : Heap, K.In base → base.Ns mainGlobals mg → CalV l.prog w K mg base k d.name 1 spLaw) :
    PySem.W.WalkO q loose XP YP l.row.toRowW d [] (fun f vs => PySem.call f vs) := by
  refine Att.attach_call hn hdf fun w s₀ s₁ mg mb fa o pm cd doc a vs ns G Y ho hd hcd hmg hobj hints hlen hg => ?_
  obtain ⟨K, KX, hF⟩ := F w mg _ Y G.T.g
  have h63 : (63 : Nat) ≤ sizeLine := by decide
  exact law_callC KX G.T.g G.T.b G.T.builtins G.T.nolimit hg hobj hints (Nat.le_trans hlen (Nat.le_trans hn2 h63)) hr hmg hF (Nat.le_trans hlen hn2)
end AV
set_option Elab.async false
set_option linter.all false
set_option maxRecDepth 100000
set_option maxHeartbeats 4000000
namespace AV
open PySem PySem.Spec PyProof.Rows L2
/-! ## bodies that exceptions may leave -/
/-- a context of no pin and no wish -/
structure NoX (X : Cx) : Prop where
  pn : X.pn = []
  xe : ∀ e s, ¬ X.xe e s
section
variable {X : Cx} {pins pn : List (Addr × Obj)} {σ : L2.St} {H : Hp} {s : Shared} {xe : Value → Shared → Prop}
theorem inv_of_tr (h0 : X.pn = []) (I : Inv (X.tr pn xe) pins σ H s) : Inv X (pn ++ pins) σ H s :=
  ⟨Cx.Ok.ofTry I.ok, I.os, I.bare, I.base, I.loc, I.cell, I.free, I.freeC, fun p hp => I.pin p (by rw [h0] at hp; exact hp), I.hok, I.len⟩
theorem inv_to_tr (h0 : X.pn = []) (I : Inv X (pn ++ pins) σ H s) : Inv (X.tr pn xe) pins σ H s :=
  ⟨Cx.Ok.toTry I.ok pn xe, I.os, I.bare, I.base, I.loc, I.cell, I.free, I.freeC, fun p hp => I.pin p (by rw [h0]; exact hp), I.hok, I.len⟩
theorem tw_tr {e : Expr} {Q : VK} (n : NoX X) (h : tw X e σ H Q) : tw (X.tr pn xe) e σ H Q := fun pins s I =>
  wpAny_mono (h (pn ++ pins) s (inv_of_tr n.pn I)) (fun u s' ⟨v, H', I', r, q⟩ => ⟨v, H', inv_to_tr n.pn I', r, q⟩) fun e' s' z => (n.xe e' s' z).elim
theorem twT_tr {e : Expr} {Q : Bool → Hp → Prop} (n : NoX X) (h : twT X e σ H Q) : twT (X.tr pn xe) e σ H Q := fun pins s I =>
  wpAny_mono (h (pn ++ pins) s (inv_of_tr n.pn I)) (fun u s' ⟨H', I', q⟩ => ⟨H', inv_to_tr n.pn I', q⟩) fun e' s' z => (n.xe e' s' z).elim
theorem twA_tr {es : List Expr} {Q : List V → Hp → Prop} (n : NoX X) (h : twA X es σ H Q) : twA (X.tr pn xe) es σ H Q := fun pos pins s I =>
  wpAny_mono (h pos (pn ++ pins) s (inv_of_tr n.pn I)) (fun u s' ⟨v, H', I', r, q⟩ => ⟨v, H', inv_to_tr n.pn I', r, q⟩) fun e' s' z => (n.xe e' s' z).elim
theorem sp_tr {D : Ends} {f : Flow} {s' : Shared} (n : NoX X) (h : SP X (pn ++ pins) D f s') : SP (X.tr pn xe) pins D f s' := by
  cases f with
  | next => obtain ⟨σ', H', I, q⟩ := h; exact ⟨σ', H', inv_to_tr n.pn I, q⟩
  | brk => obtain ⟨σ', H', I, q⟩ := h; exact ⟨σ', H', inv_to_tr n.pn I, q⟩
  | cont => obtain ⟨σ', H', I, q⟩ := h; exact ⟨σ', H', inv_to_tr n.pn I, q⟩
  | ret u => obtain ⟨v, σ', H', I, r, q⟩ := h; exact ⟨v, σ', H', inv_to_tr n.pn I, r, q⟩
theorem twS_tr {st : Stmt} {D : Ends} (n : NoX X) (h : twS X st D σ H) : twS (X.tr pn xe) st D σ H := fun pins s I =>
  wpAny_mono (h (pn ++ pins) s (inv_of_tr n.pn I)) (fun f s' q => sp_tr n q) fun e' s' z => (n.xe e' s' z).elim
theorem twB_tr {st : List Stmt} {D : Ends} (n : NoX X) (h : twB X st D σ H) : twB (X.tr pn xe) st D σ H := fun pins s I =>
  wpAny_mono (h (pn ++ pins) s (inv_of_tr n.pn I)) (fun f s' q => sp_tr n q) fun e' s' z => (n.xe e' s' z).elim
end
/-- what is wanted of an exception (of a class without fields): XR of its class and of the slots -/
def Wx (K : PySem.W.Frag) (pa : Pin) (F G : Hp) (XR : Value → Gm → Prop) : WX := fun cls d σ H => d = none ∧ ∃ G' Γ', Ex G G' ∧ Sk0 K pa F σ H G' Γ' ∧ XR cls Γ'
theorem Wx.mono {K : PySem.W.Frag} {pa : Pin} {F G G1 : Hp} {XR XR' : Value → Gm → Prop} (e : Ex G G1) (f : ∀ c Γ, XR c Γ → XR' c Γ) : ∀ c d σ H, Wx K pa F G1 XR c d σ H → Wx K pa F G XR' c d σ H :=
  fun c d σ H ⟨hd, G', Γ', e', S, q⟩ => ⟨hd, G', Γ', e.trans e', S, f _ _ q⟩
def VEx (X : Cx) (pa : Pin) (e : Expr) (Γ : Gm) (Q : Rs → Gm → Prop) (XR : Value → Gm → Prop) : Prop :=
  ∀ (F : Hp) (σ : L2.St) (H G : Hp), Sk0 X.K pa F σ H G Γ → ∀ (pn : List (Addr × Obj)) (xe : Value → Shared → Prop), Takes (X.tr pn xe) (Wx X.K pa F G XR) → tw (X.tr pn xe) e σ H fun v H' => ∃ G' Γ' r, Ex G G' ∧ StR X.K pa F σ H' G' Γ' v r ∧ Q r Γ'
def VSx (X : Cx) (pa : Pin) (st : Stmt) (Γ : Gm) (D : En) (XR : Value → Gm → Prop) : Prop :=
  ∀ (F : Hp) (σ : L2.St) (H G : Hp), Sk0 X.K pa F σ H G Γ → ∀ (pn : List (Addr × Obj)) (xe : Value → Shared → Prop), Takes (X.tr pn xe) (Wx X.K pa F G XR) → twS (X.tr pn xe) st (D.lift X.K pa F G) σ H
def VBx (X : Cx) (pa : Pin) (st : List Stmt) (Γ : Gm) (D : En) (XR : Value → Gm → Prop) : Prop :=
  ∀ (F : Hp) (σ : L2.St) (H G : Hp), Sk0 X.K pa F σ H G Γ → ∀ (pn : List (Addr × Obj)) (xe : Value → Shared → Prop), Takes (X.tr pn xe) (Wx X.K pa F G XR) → twB (X.tr pn xe) st (D.lift X.K pa F G) σ H
section
variable {X : Cx} {pa : Pin} {e : Expr} {es : List Expr} {Γ : Gm} {Q : Rs → Gm → Prop} {T : En} {XR : Value → Gm → Prop} {st : Stmt} {sts : List Stmt} {pos : Pos}
theorem vex_of (n : NoX X) (h : VE X pa e Γ Q) : VEx X pa e Γ Q XR := fun F σ H G S pn xe _ => tw_tr n (h F σ H G S)
theorem vsx_of (n : NoX X) (h : VS X pa st Γ T) : VSx X pa st Γ T XR := fun F σ H G S pn xe _ => twS_tr n (h F σ H G S)
theorem vbx_of (n : NoX X) (h : VB X pa sts Γ T) : VBx X pa sts Γ T XR := fun F σ H G S pn xe _ => twB_tr n (h F σ H G S)
theorem vbx_nil (q : T.nx Γ) : VBx X pa [] Γ T XR := fun F σ H G S pn xe _ => twB_of (X := X.tr pn xe) pss_nil ⟨G, Γ, Ex.refl G, S, q⟩
theorem vbx_cons (h : VSx X pa st Γ { T with nx := fun Γ1 => VBx X pa sts Γ1 T XR } XR) : VBx X pa (st :: sts) Γ T XR := fun F σ H G S pn xe tk => by
  refine twB_of (X := X.tr pn xe) (pss_cons ps_tw pss_tw) ?_
  refine (h F σ H G S pn xe tk).mono (fun σ1 H1 q => ?_) (fun v H1 q => q) (fun σ1 H1 q => q) (fun σ1 H1 q => q)
  obtain ⟨G1, Γ1, e1, S1, q⟩ := q
  have m := En.lift_mono (K := X.K) (pa := pa) (F := F) (D := T) e1
  exact (q F σ1 H1 G1 S1 pn xe (tk.imp (Wx.mono e1 fun _ _ z => z))).mono m.1 m.2.1 m.2.2.1 m.2.2.2
/-- a statement that raises nothing, then the rest -/
theorem vbx_ok (n : NoX X) (h : VS X pa st Γ { T with nx := fun Γ1 => VBx X pa sts Γ1 T XR }) : VBx X pa (st :: sts) Γ T XR := vbx_cons (vsx_of n h)
theorem vsx_expr (h : VEx X pa e Γ (fun _ Γ1 => T.nx Γ1) XR) (hs : swapsWith e none pos.line X.env = pure false := by rfl) : VSx X pa (.Expr e pos) Γ T XR := fun F σ H G S pn xe tk =>
  twS_of (X := X.tr pn xe) (ps_expr pe_tw hs) ((h F σ H G S pn xe tk).mono fun v H1 ⟨G1, Γ1, r, e1, ⟨α, S1, _⟩, q⟩ => ⟨G1, Γ1, e1, ⟨α, S1⟩, q⟩)
theorem vsx_ret (h : VEx X pa e Γ (fun r Γ1 => T.rt r Γ1) XR) : VSx X pa (.Return (some e) pos) Γ T XR := fun F σ H G S pn xe tk =>
  twS_of (X := X.tr pn xe) (ps_ret pe_tw) ((h F σ H G S pn xe tk).mono fun v H1 ⟨G1, Γ1, r, e1, S1, q⟩ => ⟨σ, G1, Γ1, r, e1, S1, q⟩)
theorem vsx_if (n : NoX X) {c : Expr} {u v : List Stmt} (h : VT X pa c Γ fun b Γ1 => (b = true → VBx X pa u Γ1 T XR) ∧ (b = false → VBx X pa v Γ1 T XR)) : VSx X pa (.If c u v pos) Γ T XR := fun F σ H G S pn xe tk => by
  refine twS_of (X := X.tr pn xe) (ps_if pt_tw pss_tw pss_tw) ?_
  refine (twT_tr n (h F σ H G S)).mono fun b H1 ⟨G1, Γ1, e1, S1, q1, q2⟩ => ?_
  have m := En.lift_mono (K := X.K) (pa := pa) (F := F) (D := T) e1
  have tk1 := tk.imp (Wx.mono e1 fun _ _ z => z)
  cases b with
  | true => exact (q1 rfl F σ H1 G1 S1 pn xe tk1).mono m.1 m.2.1 m.2.2.1 m.2.2.2
  | false => exact (q2 rfl F σ H1 G1 S1 pn xe tk1).mono m.1 m.2.1 m.2.2.1 m.2.2.2
/-- name = value -/
theorem vsx_set {i : Nat} {x : Str} {pos' : Pos} (hN : X.N.Nodup) (hi : X.N[i]? = some x) (hx : Loc X.env.scope x) (hp : pa i = none) (h : VEx X pa e Γ (fun r Γ1 => stored Γ1 i r T.nx) XR)
    (hs : swapsWith e (some (.Name x pos')) pos.line X.env = pure false := by rfl) (hf : X.fn x = true ∨ X.env.scope.names.lookup x = some .local := by first | exact .inl rfl | exact .inr rfl | assumption) : VSx X pa (.Assign [.Name x pos'] e pos) Γ T XR := fun F σ H G S pn xe tk => by
  refine twS_of (X := X.tr pn xe) (ps_set hN hi hx pe_tw hs hf) ?_
  refine (h F σ H G S pn xe tk).mono fun v H1 ⟨G1, Γ1, r, e1, S1, q⟩ => ?_
  obtain ⟨α, S, rv⟩ := S1
  show stk X.K pa F G T.nx _ _
  cases r with
  | d y => exact ⟨G1, _, e1, ⟨α, S.setD hp rv⟩, q⟩
  | n c => obtain ⟨p, ho, rfl, g0, f0, na, hH, rc⟩ := rv; exact ⟨G1, _, e1, ⟨_, S.setO hp g0 f0 na hH rc⟩, q⟩
  | s j => exact False.elim q
/-! ### raise C() -/
/-- an own exception class without __init__ -/
structure ExK (K : PySem.W.Frag) (C : Addr) : Prop where
  ex : ∃ (B newId initId : String) (bm : List Value), ExcBaseFacts B newId initId bm ∧ PySem.W.excIn K C bm newId = true
  kp : PySem.W.keepIn K (.ref C) = true
  sub : PySem.W.subIn K (.ref C) (.type "BaseException") = some true
  ty : PySem.W.typeIn K (.ref C) = some (.type "type")
theorem pmk_own0 {C : Addr} {x : Str} {p : Pos} (c : ExK X.K C) (gC : X.mg x = some (.ref C)) (hg : Gl X x) (hdb : (x == ("__debug__" : Str)) = false := by decide) : PMk X (.Call (.Name x p) [] [] pos) (fun _ H Q => Q (.ref C) none H) := by
  obtain ⟨B, newId, initId, bm, fx, q⟩ := c.ex
  intro pins s σ H Q I h
  refine wpAny_Call_Name_kw (ld_glob I hg gC ?_ hdb)
  refine PySem.W.callWith_K0 I.kIn c.kp ?_
  obtain ⟨bm', N, nm, qn, bs, hdct, sn, sub, ab, col, dd, k0, k1, k2, k3, k5, mN, hC, hN, hni, tl⟩ := exc_obj I.kIn q
  exact wpAny_call_exc_subT fx tl hC hN hni (fun h' e hm => mk_of I hm (raises_own c.sub c.ty) h (I.hok.gone hm.new)) (Nat.zero_le _)
theorem vsx_raise {C : Addr} {x : Str} {p pos' : Pos} (hc : X.calm = true) (c : ExK X.K C) (gC : X.mg x = some (.ref C)) (hg : Gl X x) (q : XR (.ref C) Γ) (hdb : (x == ("__debug__" : Str)) = false := by decide) :
    VSx X pa (.Raise (some (.Call (.Name x p) [] [] pos')) none pos) Γ T XR := fun F σ H G S pn xe tk =>
  twS_of (X := X.tr pn xe) (ps_raise hc tk (pmk_own0 (X := X.tr pn xe) c gC hg hdb)) ⟨rfl, G, Γ, Ex.refl G, S, q⟩
end
/-! ### promises of defs that may raise -/
abbrev SpXT := List It → (Rs → List It → Prop) → (Value → Prop) → Prop
def SpVX (K : PySem.W.Frag) (n : Nat) (sp : SpXT) : Sp := fun vs H Q E => vs.length = n ∧ ∃ (F G : Hp) (α : Nat → Addr) (its : List It) (R : Rs → List It → Prop) (XR : Value → Prop),
  its.length = n ∧ Sk K (pinI its α) F (vs.map some) H G (its.map some) α ∧ (∀ it ∈ its, ∃ x, it = .d x) ∧ sp its R XR ∧ (∀ v H', (∃ G' its' r, EndV K F G α its v H' G' its' r ∧ R r its') → Q v H') ∧
  ∀ cls H' G', Ex G G' → Ex G' H' → (∀ a o, F a = some o → FrH G' H' a o ∧ G' a = none) → XR cls → E cls none H'
/-- a def that may be called by its name and may raise -/
structure CalX (P : Program) (w : World) (K : PySem.W.Frag) (mg : Str → Option Value) (base : Heap) (k : Nat) (x : Str) (n : Nat) (sp : SpXT) : Prop where
  ex : ∃ (f : Addr) (fd : FuncData) (ps : List Str), FnG P w K mg base (L2.CX P w) k f fd ps (SpVX K ps.length sp) ∧ mg x = some (.ref f) ∧ PySem.W.keepIn K (.ref f) = true ∧ Binds K fd ps [] ∧ ps.length = n
section
variable {P : Program} {w : World} {K : PySem.W.Frag} {mg : Str → Option Value} {base : Heap}
theorem CalX.mono {x : Str} {n j k : Nat} {sp : SpXT} (c : CalX P w K mg base j x n sp) (h : j ≤ k) : CalX P w K mg base k x n sp := by
  obtain ⟨f, fd, ps, F, q⟩ := c.ex
  exact ⟨f, fd, ps, F.mono h, q⟩
theorem calx0 {x : Str} {st : Stmt} {f : Addr} {fd : FuncData} {N ps : List Str} {k n : Nat} {sp : SpXT} (F : L2.Fun K x x st f fd) (hm : mg x = some (.ref f)) (b : Binds K fd ps []) (hn : ps.length = n) (S : FnScope N ps (defScope st))
    (hbody : ∀ (cdv : Value) (A : Around) (outer : List Env) (s : Shared) (H : Hp) (E : XK) (its : List It) (α : Nat → Addr) (R : Rs → List It → Prop) (XR : Value → Prop), Room k (A.deeper (envOfC x (defScope st) s.heap.objs.size f cdv)) → (A.deeper (envOfC x (defScope st) s.heap.objs.size f cdv)).guards = some [] → sp its R XR →
      VBx (bcx P w K mg base N x st f cdv A outer s H E) (pinI its α) (defBody st) (gm0 N its) (endOf (pinI its α) its R) (fun c _ => XR c)) : CalX P w K mg base (k + 1) x n sp := by
  obtain ⟨oc, od, kV, doc, pm, an, cdv, ct, osl, rfl, lk, hcd⟩ := F.ex
  refine ⟨_, _, ps, fn_ofG lk hcd S (fun vs H Q E h => h.1) fun A outer s H vs Q E hr hgd ⟨hl, Fr, G, α, its, R, XR, hl2, S, hd, hsp, hq, hx⟩ => ⟨_, pss_tw, ?_⟩, hm, F.kp, b, hn⟩
  have tk : Takes ((bcx P w K mg base N x st f cdv A outer s H E).tr [] (cxOf (L2.CX P w) P w K mg base N x (defScope st) f cdv A outer s H E).xe) (fun cls d _ H => E cls d H) :=
    takes_of (X := cxOf (L2.CX P w) P w K mg base N x (defScope st) f cdv A outer s H E) (E₁ := fun e' s'' => L2.CX P w outer H s E e' s'') rfl rfl rfl rfl
  refine (hbody cdv A outer s H E its α R XR hr hgd hsp Fr _ H G ⟨α, sk_start S⟩ [] _ (tk.imp ?_)).mono ?_ ?_ ?_ ?_
  · rintro c d σ' H' ⟨rfl, G', Γ', e, ⟨α', S'⟩, q⟩
    exact hx c H' G' e S'.ext S'.fr q
  · rintro σ' H' ⟨G', Γ', e, ⟨α', S'⟩, q⟩
    exact hq _ _ (sk_end (r := .d .non) e ⟨α', S', .non⟩ q)
  · rintro v H' ⟨σ', G', Γ', r, e, S', q⟩
    exact hq _ _ (sk_end e S' q)
  · rintro σ' H' ⟨G', Γ', e, S', q⟩; exact q
  · rintro σ' H' ⟨G', Γ', e, S', q⟩; exact q
end
section
variable {X : Cx} {pa : Pin} {k n : Nat} {sp : SpXT} {x : Str} {p pos : Pos} {e : Expr} {es : List Expr} {Γ : Gm} {Q : Rs → Gm → Prop} {XR : Value → Gm → Prop}
/-- what is left of the slots if the call raises: the caller's own stand as they stood -/
theorem sk_left {K : PySem.W.Frag} {F : Hp} {σ : L2.St} {H H' G G' : Hp} {α : Nat → Addr} (S : Sk K pa F σ H G Γ α) (e : Ex G G') (e' : Ex G' H') (fr : ∀ a o, frC F H α Γ [] a = some o → FrH G' H' a o ∧ G' a = none) : Sk K pa F σ H' G' Γ α := by
  have own : ∀ {i : Nat} {c : C}, Γ[i]? = some (some (.o c)) → frC F H α Γ [] (α i) = H (α i) := fun {i c} h => by
    unfold frC
    rw [if_pos ⟨i, c, h, rfl, by simp [slotsOf]⟩]
  refine ⟨e', fun a o h => ?_, S.len, fun i it hi => ?_, S.inj, S.pin, S.tab⟩
  · refine fr a o ?_
    unfold frC
    split
    · rename_i hx
      obtain ⟨i, c, h1, h2, h3⟩ := hx
      obtain ⟨_, _, f0, _⟩ := S.ow h1
      rw [h2, h] at f0; cases f0
    · exact h
  · have q := S.sl i it hi
    cases it with
    | d z => obtain ⟨w, e1, e2⟩ := q; exact ⟨w, e1, e2.mono e⟩
    | o c =>
      obtain ⟨q1, q2, q3, ho, q4, q5⟩ := q
      obtain ⟨f1, f2⟩ := fr (α i) ho (by rw [own hi]; exact q4)
      exact ⟨q1, f2, q3, ho, f1.eqn q5.ntbl, q5.mono e⟩
/-- the arguments are data and serve the promise -/
def PCallX (sp : SpXT) (Q : Rs → Gm → Prop) (XR : Value → Gm → Prop) : List Rs → Gm → Prop := fun rs Γ => slotsOf rs = [] ∧ (∀ r ∈ rs, ∃ x, r = .d x) ∧ sp (rs.map (itOf Γ)) (fun r _ => Q r Γ) fun c => XR c Γ
theorem putB_nos {Γ : Gm} : ∀ {rs : List Rs} {its : List It}, slotsOf rs = [] → putB Γ rs its = Γ
  | [], _, _ => rfl
  | r :: rs, [], _ => by cases r <;> rfl
  | r :: rs, it :: its, h => by
    cases r with
    | s j => cases h
    | d x => cases it <;> exact putB_nos (rs := rs) h
    | n c => cases it <;> exact putB_nos (rs := rs) h
theorem frC_nos {F H : Hp} {α : Nat → Addr} {Γ : Gm} {rs : List Rs} (h : slotsOf rs = []) : frC F H α Γ rs = frC F H α Γ [] := by
  funext a
  unfold frC
  rw [h]
  rfl
theorem vex_c (nx : NoX X) (c : CalX X.prog X.w X.K X.mg X.base k x n sp) (hr : Room k X.A) (hgd : X.A.guards = some []) (hg : Gl X x) (hn : n = (e :: es).length) (ha : VA X pa (e :: es) Γ fun rs Γ1 => rs.length = n ∧ PCallX sp Q XR rs Γ1)
    (hdb : (x == ("__debug__" : Str)) = false := by decide) (he : starEach (e :: es) X.env = (false, eval e X.env) :: starEach es X.env := by rfl) (hpl : (backTo pos (starEach es X.env)).any (·.1) = false := by rfl) : VEx X pa (.Call (.Name x p) (e :: es) [] pos) Γ Q XR := by
  obtain ⟨f, fd, ps, Fn, hm, hk, hb, hl⟩ := c.ex
  subst hl
  intro F σ H G S pn xe tk pins s I
  refine wpAny_Call_Name_kw (ld_glob (X := X.tr pn xe) I hg hm ?_ hdb)
  refine PySem.W.callWith_K (h₀ := X.base) I.ok.mod.kin hk (thn (twA_tr (pn := pn) (xe := xe) nx (ha F σ H G S) pos pins s I) fun us s1 ⟨vs, H1, I1, r1, hh⟩ => ⟨I1.kIn, ?_⟩) he hpl
  obtain ⟨G1, Γ1, rs, e1, ⟨α, S1⟩, cv, hl1, ns, hd, hsp⟩ := hh
  have ok : SlotsOk Γ1 rs := so0 ns
  have hlv : vs.length = ps.length := by rw [cv.length, hl1]
  have hlu : us.length = ps.length := by rw [← hlv]; exact r1.length.symm
  have hb1 := hb s1 us I1.kIn (by rw [List.append_nil]; exact hlu)
  rw [List.append_nil] at hb1
  refine wpAny_call (codeAny_mono (Fn.run X.A X.stack s1 H1 ⟨us, []⟩ us vs (fun v H' => ∃ G' Γ' r, Ex G G' ∧ StR X.K pa F σ H' G' Γ' v r ∧ Q r Γ') (fun cls d H' => Wx X.K pa F G XR cls d σ H') hr hgd I1.env0 hb1 r1 ?_) fun r s' hq => ?_)
  · refine ⟨hlv, frC F H1 α Γ1 rs, G1, alC α rs, rs.map (itOf Γ1), _, _, by rw [List.length_map, hl1], sk_call S1 cv ok, fun it hit => ?_, hsp, ?_, ?_⟩
    · obtain ⟨r, hr', e2⟩ := List.mem_map.mp hit
      obtain ⟨y, rfl⟩ := hd r hr'
      exact ⟨y, e2.symm⟩
    · rintro v H2 ⟨G2, its', r, en, q⟩
      have b := sk_back S1 ok en
      rw [putB_nos ns] at b
      exact ⟨G2, Γ1, r, e1.trans en.ex, b, q⟩
    · intro cls H2 G2 e2 e3 fr q
      rw [frC_nos ns] at fr
      exact ⟨rfl, G2, Γ1, e1.trans e2, ⟨α, sk_left S1 e2 e3 fr⟩, q⟩
  · cases r with
    | error u => exact passAt (X := X.tr pn xe) tk σ pins H1 s1 u s' I1 hq
    | ok fl =>
      cases fl with
      | ret u => exact I1.after hq
      | next => exact False.elim hq
      | brk => exact False.elim hq
      | cont => exact False.elim hq
end
end AV
set_option Elab.async false
set_option linter.all false
set_option maxRecDepth 100000
set_option maxHeartbeats 4000000
namespace AV
open PySem PySem.Spec PyProof.Rows L2
/-! ## lambdas made -/
section
variable {X : Cx} {pins : List (Addr × Obj)} {σ : L2.St} {H : Hp} {s : Shared}
/-- a new object that is known from now on -/
theorem inv_track {s0 : Shared} {H0 : Hp} {f : Addr} {ob : Obj} (I0 : Inv X pins σ H0 s0) (I : Inv X pins σ H s) (hf : s.heap.get? f = some ob) (n : H f = none) (hge : s0.heap.objs.size ≤ f) : Inv X pins σ (upd H f (.frz ob (.own f))) s := by
  have big : ∀ {b : Addr} {o : Obj}, s0.heap.get? b = some o → b ≠ f := fun {b o} e z => by
    rw [z] at e; exact Nat.lt_irrefl _ (Nat.lt_of_lt_of_le (Heap.lt_size e) hge)
  have neO : ∀ {b : Addr} {o : Obj}, X.s_0.heap.get? b = some o → b ≠ f := fun {b o} e z => by
    rw [z] at e; exact Nat.lt_irrefl _ (Nat.lt_of_lt_of_le (Heap.lt_size e) (Nat.le_trans I0.sz hge))
  have at_ : ∀ {b : Addr} {u : HO}, H b = some u → upd H f (.frz ob (.own f)) b = some u := fun {b u} e => by rw [upd_ne (ne_of_none e n)]; exact e
  refine ⟨I.ok, I.os, I.bare, ⟨I.base.keep, I.base.slot, fun b o e h hx => by rw [upd_ne (neO e)]; exact I.base.free b o e h hx, I.base.there, fun b xs e => at_ (I.base.tups b xs e), fun b o xs e => at_ (I.base.frzs b o xs e), fun b ps e => ?_⟩, I.loc, I.cell, ?_, fun x c e => ?_, fun p hp => ?_, fun b u e => ?_, I.len⟩
  · obtain ⟨more, z⟩ := I.base.tbls b ps e
    exact ⟨more, at_ z⟩
  · have hl := Nat.lt_of_lt_of_le I0.lt hge
    rw [upd_ne (Nat.ne_of_lt hl)]; exact I.free
  · obtain ⟨v, o, ho, _⟩ := I0.cell x c e
    rw [upd_ne (big ho)]; exact I.freeC x c e
  · obtain ⟨e1, e2, e3, e4, e5⟩ := I.pin p hp
    obtain ⟨z, _⟩ := I0.pin p hp
    exact ⟨e1, by rw [upd_ne (big z)]; exact e2, e3, e4, e5⟩
  · by_cases hb : b = f
    · subst hb; rw [upd_same] at e; cases e
      exact ⟨hf, ob, hf⟩
    · rw [upd_ne hb] at e
      exact (I.hok b u e).stay (fun _ _ _ q => q) (fun c q => at_ q) fun c xs q => at_ q
/-- the lambda is made: its code object is known already, or new -/
theorem lam_mk {c P : Addr} {qn : Str} {ps : Array Value} {params : Arguments} {body : Expr} {scope : Scope} {pos : Pos} {Gc : Addr → Prop} {E : Value → Shared → Prop} {Q : Value → Shared → Prop} (I : Inv X pins σ H s) (TB : LamX.TabB X.base X.mg c P) (hcode : X.env.code = .ref c) (hq : X.env.qual ++ "<lambda>" = qn)
    (hP : H P = some (.tbl ps)) (ht : TriplesOk ps.toList) (ha : ∀ (p' : Pos) (cv : Value), codeAmong p' ps.toList = some cv → ∃ c', cv = .ref c' ∧ Gc c') (hG : ∀ c', Gc c' → ∃ u, H c' = some u) (hdef : defaultsOf params X.env = ([], [])) (hfree : ∀ y ∈ scope.names, y.2 = .free → ∃ c, X.env.cells.lookup y.1 = some c)
    (h : ∀ (f c' : Addr) (pm ctv : Value) (H1 : Hp) (s' : Shared), Inv X pins σ H1 s' → s'.heap.get? f = some (PySem.W.kla_obj "<lambda>" qn params body scope (cloFrom X.env.cells scope.names []) pm c' ctv) → H1 f = none → H f = none → f ≠ c' → s.heap.objs.size ≤ f →
      (Gc c' ∧ H1 = H) ∨ (H c' = none ∧ H1 = upd (upd H P (.tbl (ps ++ #[rawInt pos.line, rawInt pos.col, .ref c']))) c' (LamX.CodeO c' qn)) → Q (.ref f) s') :
    wpAny (model X.prog X.w) X.A (eval (.Lambda params body scope pos) X.env) Q E s := by
  subst hq
  refine PySem.W.kla_eval hdef ?_
  have bP : s.heap.BuiltinsAt X.mg P := TB.bm.keeps I.bk
  have hP' : s.heap.get? P = some { cls := .none, data := .fields ps } := I.hok P _ hP
  cases hc : codeAmong pos ps.toList with
  | none =>
    refine PySem.W.kla_makeFunction (mg := X.mg) (c := c) (P := P) (ps := ps) (closure_ok hfree) I.ok.glob (I.mod.glob.keeps I.bk) hcode (TB.code.keeps I.bk) hP' ht hc TB.gP bP fun c' ctv h' tk hx hge hlt hrec htb => ?_
    obtain ⟨c2, oc, vs, t, e2, hoc, hd, hv⟩ := hrec
    cases e2
    have hsz : s.heap.objs.size ≤ h'.objs.size := Nat.le_trans hge (Nat.le_of_lt hlt)
    have nC : H c' = none := I.hok.fresh hge
    have n1 : h'.objs.size ≠ c' := Nat.ne_of_gt hlt
    have n2 : h'.objs.size ≠ P := Nat.ne_of_gt (Nat.lt_of_lt_of_le (Heap.lt_size hP') hsz)
    have I1 := LamX.inv_table (t' := tk) (more := #[rawInt pos.line, rawInt pos.col, .ref c']) (h' := h'.push (PySem.W.kla_obj "<lambda>" (X.env.qual ++ "<lambda>") params body scope (cloFrom X.env.cells scope.names []) ((X.mg "__name__").getD .none) c' ctv)) I hP
      (fun b o hb e => Heap.get?_push_of_some _ (hx b o hb e)) (Heap.get?_push_of_some _ htb) hge ⟨oc, vs, t, Heap.get?_push_of_some _ hoc, hd, hv⟩
    exact h h'.objs.size c' _ ctv _ _ I1 (Heap.get?_push_size _ rfl) (by rw [upd_ne n1, upd_ne n2]; exact I.hok.fresh hsz) (I.hok.fresh hsz) n1 hsz (.inr ⟨nC, rfl⟩)
  | some cv =>
    obtain ⟨c', rfl, hg⟩ := ha pos cv hc
    refine PySem.W.kla_makeFunctionHit (mg := X.mg) (c := c) (P := P) (ps := ps) (closure_ok hfree) I.ok.glob (I.mod.glob.keeps I.bk) hcode (TB.code.keeps I.bk) hP' ht hc bP fun ctv h' tk hx hsz => ?_
    have hfc : h'.objs.size ≠ c' := fun z => by
      obtain ⟨u, hu⟩ := hG c' hg
      exact absurd (Nat.lt_of_lt_of_le (I.hok.lt hu) (by rw [← z]; exact hsz)) (Nat.lt_irrefl _)
    exact h h'.objs.size c' _ ctv H _ (I.kept fun b o e => Heap.get?_push_of_some _ (hx b o e)) (Heap.get?_push_size _ rfl) (I.hok.fresh hsz) (I.hok.fresh hsz) hfc hsz (.inl ⟨hg, rfl⟩)
/-- lambda: body -/
theorem ve_lam {pa : Pin} {Γ : Gm} {Q : Rs → Gm → Prop} {c P : Addr} {params : Arguments} {body : Expr} {scope : Scope} {pos : Pos} (TB : LamX.TabB X.base X.mg c P) (hcode : X.env.code = .ref c) (hT : (P, X.env.qual ++ "<lambda>") ∈ pa.tabs)
    (hdef : defaultsOf params X.env = ([], [])) (L : LamX.LamS X.env.scope scope) (q : Q (.d (.clo ⟨X.env.qual ++ "<lambda>", params, body, scope, cloFrom X.env.cells scope.names []⟩ [] [])) Γ) : VE X pa (.Lambda params body scope pos) Γ Q := by
  intro F σ H G ⟨α, S⟩ pins s I
  obtain ⟨t, hFP⟩ := S.tab _ hT
  obtain ⟨hfr, gP⟩ := S.fr _ _ hFP
  obtain ⟨q', t', ps, eq, hP, ht, ha⟩ := hfr
  have eqq : X.env.qual ++ "<lambda>" = q' := by
    have := congrArg (fun z : Array Value => z.toList) eq
    simpa using (by injection this with h1 _; injection h1 : X.env.qual ++ "<lambda>" = q')
  subst eqq
  refine lam_mk (Gc := fun c' => G c' = some (LamX.CodeO c' (X.env.qual ++ "<lambda>"))) I TB hcode rfl hP ht ha (fun c' h => ⟨_, S.ext _ _ h⟩) hdef (L.has I.ok) fun f c' pm ctv H1 s' I1 hf hf1 hf0 hfc hge hH => ?_
  have I2 := inv_track I I1 hf hf1 hge
  have gf : G f = none := S.ext.back hf0
  have fP : f ≠ P := fun z => by rw [z, hP] at hf0; cases hf0
  have own : ∀ {i : Nat} {k : C}, Γ[i]? = some (some (.o k)) → α i ≠ f ∧ α i ≠ P ∧ (H c' = none → α i ≠ c') := fun {i k} hi => by
    obtain ⟨_, _, _, ho, h4, h5⟩ := S.ow hi
    refine ⟨fun z => ?_, fun z => ?_, fun n z => ?_⟩
    · rw [z, hf0] at h4; cases h4
    · rw [z, hP] at h4; cases h4; exact h5.ntbl _ rfl
    · rw [z, n] at h4; cases h4
  have inF : ∀ {a : Addr} {o : HO}, F a = some o → a ≠ f ∧ (H c' = none → a ≠ c') := fun {a o} h => by
    obtain ⟨u, hu⟩ := (S.fr a o h).1.some
    exact ⟨fun z => (by rw [z, hf0] at hu; cases hu), fun n z => (by rw [z, n] at hu; cases hu)⟩
  rcases hH with ⟨hg, rfl⟩ | ⟨nc, rfl⟩
  · have e : Ex G (upd G f (.frz (PySem.W.kla_obj "<lambda>" (X.env.qual ++ "<lambda>") params body scope (cloFrom X.env.cells scope.names []) pm c' ctv) (.own f))) := Ex.new gf
    refine ⟨V.ref f, _, I2, rfl, _, Γ, .d (.clo ⟨X.env.qual ++ "<lambda>", params, body, scope, cloFrom X.env.cells scope.names []⟩ [] []), e, ⟨α, ⟨fun a o h => ?_, fun a o h => ?_, S.len, fun i it hi => ?_, S.inj, S.pin, S.tab⟩, Re.clo (c := ⟨X.env.qual ++ "<lambda>", params, body, scope, cloFrom X.env.cells scope.names []⟩) upd_same (e _ _ hg) .nil⟩, q⟩
    · by_cases z : a = f
      · subst z; rw [upd_same] at h ⊢; exact h
      · rw [upd_ne z] at h ⊢; exact S.ext a o h
    · obtain ⟨h1, h2⟩ := S.fr a o h
      have na := (inF h).1
      exact ⟨h1.mono e fun u hu => by rw [upd_ne na]; exact hu, by rw [upd_ne na]; exact h2⟩
    · have z := S.sl i it hi
      cases it with
      | d y => obtain ⟨w, e1, e2⟩ := z; exact ⟨w, e1, e2.mono e⟩
      | o k =>
        obtain ⟨e1, e2, e3, ho, e4, e5⟩ := z
        have na := (own hi).1
        exact ⟨e1, by rw [upd_ne na]; exact e2, e3, ho, by rw [upd_ne na]; exact e4, e5.mono e⟩
  · have gc : G c' = none := S.ext.back nc
    have cP : c' ≠ P := fun z => by rw [z, hP] at nc; cases nc
    have e0 : Ex G (upd G c' (LamX.CodeO c' (X.env.qual ++ "<lambda>"))) := Ex.new gc
    have e1 : Ex (upd G c' (LamX.CodeO c' (X.env.qual ++ "<lambda>"))) (upd (upd G c' (LamX.CodeO c' (X.env.qual ++ "<lambda>"))) f (.frz (PySem.W.kla_obj "<lambda>" (X.env.qual ++ "<lambda>") params body scope (cloFrom X.env.cells scope.names []) pm c' ctv) (.own f))) := Ex.new (by rw [upd_ne hfc]; exact gf)
    have e := e0.trans e1
    have gc2 := e1 _ _ (upd_same (H := G) (a := c') (o := LamX.CodeO c' (X.env.qual ++ "<lambda>")))
    have kp : ∀ {a : Addr}, a ≠ f → a ≠ c' → a ≠ P → ∀ u, H a = some u → (upd (upd (upd H P (.tbl (ps ++ #[rawInt pos.line, rawInt pos.col, .ref c']))) c' (LamX.CodeO c' (X.env.qual ++ "<lambda>"))) f (.frz (PySem.W.kla_obj "<lambda>" (X.env.qual ++ "<lambda>") params body scope (cloFrom X.env.cells scope.names []) pm c' ctv) (.own f))) a = some u := fun {a} n1 n2 n3 u hu => by
      rw [upd_ne n1, upd_ne n2, upd_ne n3]; exact hu
    refine ⟨V.ref f, _, I2, rfl, _, Γ, .d (.clo ⟨X.env.qual ++ "<lambda>", params, body, scope, cloFrom X.env.cells scope.names []⟩ [] []), e, ⟨α, ⟨fun a o h => ?_, fun a o h => ?_, S.len, fun i it hi => ?_, S.inj, S.pin, S.tab⟩, Re.clo (c := ⟨X.env.qual ++ "<lambda>", params, body, scope, cloFrom X.env.cells scope.names []⟩) upd_same gc2 .nil⟩, q⟩
    · by_cases z : a = f
      · subst z; rw [upd_same] at h ⊢; exact h
      · rw [upd_ne z] at h ⊢
        by_cases z2 : a = c'
        · subst z2; rw [upd_same] at h ⊢; exact h
        · rw [upd_ne z2] at h ⊢
          have z3 : a ≠ P := fun z3 => by rw [z3, gP] at h; cases h
          rw [upd_ne z3]; exact S.ext a o h
    · obtain ⟨h1, h2⟩ := S.fr a o h
      obtain ⟨n1, n2⟩ := inF h
      refine ⟨?_, by rw [upd_ne n1, upd_ne (n2 nc)]; exact h2⟩
      by_cases z : a = P
      · subst z
        rw [hFP] at h
        cases h
        refine ⟨X.env.qual ++ "<lambda>", t, ps ++ #[rawInt pos.line, rawInt pos.col, .ref c'], rfl, by rw [upd_ne n1, upd_ne (n2 nc), upd_same], ?_, fun p' cv hcv => ?_⟩
        · have eL : (ps ++ #[rawInt pos.line, rawInt pos.col, .ref c']).toList = ps.toList ++ [rawInt pos.line, rawInt pos.col, .ref c'] := by simp
          rw [eL]; exact PySem.TriplesOk_snoc _ _ _ _ ht
        · have eL : (ps ++ #[rawInt pos.line, rawInt pos.col, .ref c']).toList = ps.toList ++ [rawInt pos.line, rawInt pos.col, .ref c'] := by simp
          rw [eL] at hcv
          rcases LamX.among_app _ ht hcv with z | z
          · obtain ⟨c0, z1, z2⟩ := ha p' cv z
            exact ⟨c0, z1, e _ _ z2⟩
          · exact ⟨c', z, gc2⟩
      · exact h1.mono e fun u hu => kp n1 (n2 nc) z u hu
    · have z := S.sl i it hi
      cases it with
      | d y => obtain ⟨w, e1, e2⟩ := z; exact ⟨w, e1, e2.mono e⟩
      | o k =>
        obtain ⟨e1, e2, e3, ho, e4, e5⟩ := z
        obtain ⟨n1, n2, n3⟩ := own hi
        exact ⟨e1, by rw [upd_ne n1, upd_ne (n3 nc)]; exact e2, e3, ho, kp n1 (n3 nc) n2 _ e4, e5.mono e⟩
end
end AV
set_option Elab.async false
set_option linter.all false
set_option maxRecDepth 100000
set_option maxHeartbeats 4000000
namespace AV
open PySem PySem.Spec PyProof.Rows L2
/-! ## lambdas called -/
/-- d may be called in any state behind (H0, h0) and raises an exception of a class of XR -/
def ActD (P : Program) (w : World) (K : PySem.W.Frag) (mg : Str → Option Value) (base : Heap) (k : Nat) (fs : List Addr) (H0 : Hp) (h0 : Heap) (d : D) (XR : Value → Prop) : Prop :=
  ∀ (f : Addr) (A : Around) (outer : List Env) (s : Shared) (H : Hp) (E : XK) (F G : Hp) (α : Nat → Addr), Room k A → A.guards = some [] → Env0 P w K mg base A outer s H → Un fs [] H0 H h0 s.heap → Sk K (pinI [] α) F [] H G [] α → Re K G (.ref f) d →
    (∀ cls H' G', Ex G G' → Ex G' H' → (∀ a o, F a = some o → FrH G' H' a o ∧ G' a = none) → XR cls → E cls none H') → codeAny (model P w) A (.call (.ref f) ⟨[], []⟩) (CR (L2.CX P w) outer P w H s (fun _ _ => False) E) s
section
variable {X : Cx} {pa : Pin} {Γ : Gm} {Q : Rs → Gm → Prop} {XR' : Value → Gm → Prop}
/-- x(), x a slot that holds a lambda -/
theorem vex_act {i k : Nat} {x : Str} {c : Clo} {vs : List V} {ds : List D} {XR : Value → Prop} {p pos : Pos} (nx : NoX X) (hN : X.N[i]? = some x) (hv : Vis X.env.scope x) (hex : X.ex = []) (hd : Γ[i]? = some (some (.d (.clo c vs ds))))
    (act : ActD X.prog X.w X.K X.mg X.base k X.fs X.H_0 X.s_0.heap (.clo c vs ds) XR) (hr : Room k X.A) (hgd : X.A.guards = some []) (q : ∀ cl, XR cl → XR' cl Γ)
    (hdb : (x == ("__debug__" : Str)) = false := by decide) (hcd : (x == ("__classdict__" : Str)) = false := by decide) : VEx X pa (.Call (.Name x p) [] [] pos) Γ Q XR' := by
  intro F σ H G ⟨α, S⟩ pn xe tk pins s I
  obtain ⟨v, hs, re⟩ := S.sl i _ hd
  have re0 := re
  cases re with
  | @clo f c' _ pm ctv _ _ hG hc hra =>
    refine wpAny_Call_Name_kw (thn ((pe_var (X := X.tr pn xe) (pos := p) (i := i) hN hv hdb hcd).run pins s σ H (fun u H1 => u = V.ref f ∧ H1 = H) I ⟨V.ref f, hs, rfl, rfl⟩) fun u s1 ⟨v1, H1, I1, r1, e1, e2⟩ => ?_)
    subst e1
    rw [e2] at I1
    obtain rfl : u = Value.ref f := r1
    have of1 : s1.heap.get? f = some (c.ob pm c' ctv) := (I1.hok f _ (S.ext _ _ hG)).1
    refine PySem.W.callWith_F0 ⟨_, _, _, _, of1⟩ ?_
    have un : Un X.fs [] X.H_0 H X.s_0.heap s1.heap := by
      have := I1.base
      rw [show (X.tr pn xe).ex = [] from hex] at this
      exact this
    have ok : SlotsOk Γ [] := so0 rfl
    refine wpAny_call (codeAny_mono (act f X.A X.stack s1 H (fun cls d H' => Wx X.K pa F G XR' cls d σ H') (frC F H α Γ []) G (alC α []) hr hgd I1.env0 un (sk_call (rs := []) (vs := []) S .nil ok) re0 ?_) fun r s' hq => ?_)
    · intro cls H2 G2 e2 e3 fr z
      exact ⟨rfl, G2, Γ, e2, ⟨α, sk_left S e2 e3 fr⟩, q cls z⟩
    · cases r with
      | error u => exact passAt (X := X.tr pn xe) tk σ pins H s1 u s' I1 hq
      | ok fl =>
        cases fl with
        | ret u => obtain ⟨_, _, _, _, _, _, _, z⟩ := hq; exact z.elim
        | next => exact False.elim hq
        | brk => exact False.elim hq
        | cont => exact False.elim hq
end
/-! ### a lambda, by its body -/
/-- the context of a lambda's body -/
abbrev lamB (X : Cx) (A : Around) (outer : List Env) (s : Shared) (H : Hp) (E : XK) (scope : Scope) (f c' : Addr) : Cx := (LamX.lamCx X A outer s H E scope f c').nox
/-- the slots that hold data -/
def datG : Gm → Gm := List.map fun g => match g with
  | some (.d x) => some (.d x)
  | _ => none
theorem datG_get {Γ : Gm} {i : Nat} {it : It} (h : (datG Γ)[i]? = some (some it)) : ∃ x, it = .d x ∧ Γ[i]? = some (some (.d x)) := by
  unfold datG at h
  rw [List.getElem?_map] at h
  cases q : Γ[i]? with
  | none => rw [q] at h; cases h
  | some g =>
    rw [q] at h
    cases g with
    | none => cases h
    | some it' =>
      cases it' with
      | d x => cases h; exact ⟨x, rfl, rfl⟩
      | o c => cases h
/-- the values of the slots that hold data -/
def capV (σ : L2.St) (Γ : Gm) : List V := Γ.mapIdx fun i g => match g with
  | some (.d _) => ((σ[i]?).getD none).getD .non
  | _ => .non
def capD (Γ : Gm) : List D := Γ.map fun g => match g with
  | some (.d x) => x
  | _ => .non
theorem rea_of {K : PySem.W.Frag} {G : Hp} : ∀ {vs : List V} {ds : List D}, vs.length = ds.length → (∀ (i : Nat) (v : V) (d : D), vs[i]? = some v → ds[i]? = some d → Re K G v d) → ReA K G vs ds
  | [], [], _, _ => .nil
  | [], _ :: _, h, _ => by cases h
  | _ :: _, [], h, _ => by cases h
  | v :: vs, d :: ds, h, f => .cons (f 0 v d rfl rfl) (rea_of (by simpa using h) fun i v d hv hd => f (i + 1) v d (by simpa using hv) (by simpa using hd))
theorem cap_re {K : PySem.W.Frag} {pa : Pin} {F : Hp} {σ : L2.St} {H G : Hp} {Γ : Gm} {α : Nat → Addr} (S : Sk K pa F σ H G Γ α) : ReA K G (capV σ Γ) (capD Γ) := by
  refine rea_of (by simp [capV, capD]) fun i v d hv hd => ?_
  unfold capV at hv
  unfold capD at hd
  rw [List.getElem?_mapIdx] at hv
  rw [List.getElem?_map] at hd
  cases q : Γ[i]? with
  | none => rw [q] at hv; cases hv
  | some g =>
    rw [q] at hv hd
    cases g with
    | none => cases hv; cases hd; exact .non
    | some it =>
      cases it with
      | d x =>
        cases hd
        obtain ⟨w, hw, r⟩ := S.sl i _ q
        simp only [Option.map_some, hw, Option.getD_some] at hv
        cases hv
        exact r
      | o c => cases hv; cases hd; exact .non
theorem cap_sk {K : PySem.W.Frag} {pa : Pin} {F0 F : Hp} {σ : L2.St} {H0 G0 H G : Hp} {Γ : Gm} {α : Nat → Addr} (S : Sk K pa F0 σ H0 G0 Γ α) (e : Ex G H) (fr : ∀ a o, F a = some o → FrH G H a o ∧ G a = none) (r : ReA K G (capV σ Γ) (capD Γ)) : Sk K ⟨fun _ => none, []⟩ F σ H G (datG Γ) fun _ => 0 := by
  refine ⟨e, fr, by rw [S.len]; simp [datG], fun i it hi => ?_, fun i j c c' hi _ _ => ?_, fun i p hp => (by cases hp), fun p hp => (by cases hp)⟩
  · obtain ⟨x, rfl, hx⟩ := datG_get hi
    obtain ⟨w, hw, _⟩ := S.sl i _ hx
    have hd : (capD Γ)[i]? = some x := by unfold capD; rw [List.getElem?_map, hx]; rfl
    obtain ⟨v, hv, rv⟩ := r.get hd
    have hv2 : (capV σ Γ)[i]? = some w := by unfold capV; rw [List.getElem?_mapIdx, hx]; simp [hw]
    have ev := Option.some.inj (hv.symm.trans hv2)
    rw [ev] at rv
    exact ⟨w, hw, rv⟩
  · obtain ⟨x, e1, _⟩ := datG_get hi
    cases e1
section
variable {X : Cx}
/-- a lambda of this context whose body raises an exception of a class of XR, from the slots Γ -/
structure LamOk (X : Cx) (Γ : Gm) (k : Nat) (c : Clo) (XR : Value → Prop) : Prop where
  q : c.q = X.env.qual ++ "<lambda>"
  cl : c.cl = cloFrom X.env.cells c.scope.names []
  ls : LamX.LamS X.env.scope c.scope
  bind : ∀ (q : Str) (cl : List (Str × Addr)) (pm cv ctv : Value), bindArgs (PySem.W.kla_fn "<lambda>" q c.params c.body c.scope cl pm cv ctv) ⟨[], []⟩ = pure []
  body : ∀ (A : Around) (outer : List Env) (s : Shared) (H : Hp) (E : XK) (f c' : Addr), Room k (lamB X A outer s H E c.scope f c').A → (lamB X A outer s H E c.scope f c').A.guards = some [] →
    VEx (lamB X A outer s H E c.scope f c') ⟨fun _ => none, []⟩ c.body (datG Γ) (fun _ _ => False) fun cl _ => XR cl
theorem act_of {pins : List (Addr × Obj)} {σ : L2.St} {H0 : Hp} {s0 : Shared} {pa : Pin} {F0 G0 : Hp} {Γ : Gm} {α0 : Nat → Addr} {k : Nat} {c : Clo} {XR : Value → Prop} (I : Inv X pins σ H0 s0) (S0 : Sk X.K pa F0 σ H0 G0 Γ α0) (L : LamOk X Γ k c XR) :
    ActD X.prog X.w X.K X.mg X.base (k + 1) (frs X.stack) H0 s0.heap (.clo c (capV σ Γ) (capD Γ)) XR := by
  obtain ⟨cq, cparams, cbody, cscope, ccl⟩ := c
  obtain ⟨hq, hcl, ls, hbind, hbody⟩ := L
  dsimp only at hq hcl ls hbind hbody
  subst hq hcl
  intro f A outer s1 H E F G α hr hgd e0 un S re hx
  cases re with
  | @clo _ c' _ pm ctv _ _ hG hc hra =>
    have of1 : s1.heap.get? f = some (PySem.W.kla_obj "<lambda>" (X.env.qual ++ "<lambda>") cparams cbody cscope (cloFrom X.env.cells cscope.names []) pm c' ctv) := (e0.hok f _ (S.ext _ _ hG)).1
    obtain ⟨⟨oc, us, t, hoc, hdc, hvc⟩, _, _⟩ := e0.hok c' _ (S.ext _ _ hc)
    refine PySem.W.kla_callFunE hr.depth of1 rfl ls.co ls.gen rfl ⟨c', oc, us, t, rfl, hoc, hdc, hvc⟩ ?_
    rw [hbind]
    have lim : s1.heap.NoLimit := e0.mod.nolimit.keeps fun b o e => (e0.bs b o e).1
    refine wpAny_pure (wpAny_newFunctionEnv (fun y hy => (ls.own y hy).2) (fun y hy => absurd hy (by simp)) (fun h₁ hns hsb => ⟨lim.fresh _ hsb, ?_⟩) ls.kind)
    show codeAny _ _ (.expr cbody (LamX.lamEnv X cscope s1.heap.objs.size f c')) _ _
    have kp : ∀ b o, s1.heap.get? b = some o → h₁.get? b = some o := fun b o e => hsb.extBut b o (Nat.ne_of_lt (Heap.lt_size e)) (Heap.get?_push_of_some _ e)
    have J : Inv (LamX.lamCx X A outer s1 H E cscope f c') [] σ H { s1 with heap := h₁, toks := s1.toks + ([] : List (Str × Value)).length } := LamX.lam_start2 I ls e0 hr.hd un hns kp
    have tk : Takes (LamX.lamCx X A outer s1 H E cscope f c') (fun cls d _ H' => E cls d H') := takes_of (E₁ := fun e' s'' => L2.CX X.prog X.w outer H s1 E e' s'') rfl rfl rfl rfl
    have tk2 : Takes ((lamB X A outer s1 H E cscope f c').tr [] (LamX.lamCx X A outer s1 H E cscope f c').xe) (Wx X.K ⟨fun _ => none, []⟩ F G fun cl _ => XR cl) := by
      refine tk.imp ?_
      rintro cl d σ' H' ⟨rfl, G', Γ', e, ⟨α', S'⟩, z⟩
      exact hx cl H' G' e S'.ext S'.fr z
    have hgd2 : (lamB X A outer s1 H E cscope f c').A.guards = some [] := by
      first
        | exact hgd
        | (show _ = _; simpa [Around.deeper, Around.under, Code.guards, pushGuards] using hgd)
    refine PySem.W.kla_codeExpr (wpAny_mono (hbody A outer s1 H E f c' (hr.deeper _) hgd2 F σ H G ⟨_, cap_sk S0 S.ext S.fr hra⟩ [] _ tk2 [] _ J) (fun v s' hq => ?_) fun e s' hq => hq)
    obtain ⟨_, _, _, _, _, _, _, _, _, z⟩ := hq
    exact z.elim
end
end AV
set_option Elab.async false
set_option linter.all false
set_option maxRecDepth 100000
set_option maxHeartbeats 4000000
namespace AV
open PySem PySem.Spec PyProof.Rows L2
/-! ## try, except C as e -/
section
variable {X : Cx} {pa : Pin} {Γ : Gm} {T : En}
theorem vs_try {i : Nat} {x n : Str} {C : Addr} {body suite : List Stmt} {b₀ : Stmt} {np pos pos' : Pos} (nx : NoX X) (hs : X.stack = X.env :: X.outer) (hf : X.env.frame = some X.env.locals) (hN : X.N.Nodup) (hi : X.N[i]? = some n) (hln : X.env.kindOf n = some .local) (hp : pa i = none)
    (hg : Gl X x) (hm : X.mg x = some (.ref C))
    (h : VBx X pa body Γ T fun cls Γ1 => PySem.W.exmOne X.K cls (.ref C) = some true ∧ ∀ (a : Addr) (oe : Obj) (pn : List (Addr × Obj)), Zc cls none oe → (∃ vs, oe.data = .fields vs) →
      VB (X.suite a ((a, oe) :: pn)) pa (b₀ :: suite) (Γ1.set i (some (.d (.obj a)))) { nx := fun Γ2 => T.nx (Γ2.set i none), rt := T.rt, bk := fun Γ2 => T.bk (Γ2.set i none), ct := fun Γ2 => T.ct (Γ2.set i none) })
    (hdb : (x == ("__debug__" : Str)) = false := by decide) : VS X pa (.Try body [.ExceptHandler (some (.Name x np)) (some n) (b₀ :: suite) pos'] [] [] pos) Γ T := by
  intro F σ H G S
  refine twS_of (ps_try_as (c := .ref C) (Wout := fun _ _ _ _ => False) (tb := fun W D σ H => ∀ (pn : List (Addr × Obj)) (xe : Value → Shared → Prop), Takes (X.tr pn xe) W → twB (X.tr pn xe) body D σ H)
    (ts := fun a cls d D σ H => ∀ (oe : Obj) (pn : List (Addr × Obj)), Zc cls d oe → (∃ vs, oe.data = .fields vs) → twB (X.suite a ((a, oe) :: pn)) (b₀ :: suite) D σ H)
    hs hf hN hi hln ⟨hg, hdb, .inl hm⟩ LamX.takes0 (fun W pn xe tk _ => ⟨fun pins s σ H D I hh => hh pn xe tk pins s I⟩) (fun a oe cls d pn hz hfl => ⟨fun pins s σ H D I hh => hh oe pn hz hfl pins s I⟩)) ?_
  intro pn xe tk
  refine h F σ H G S pn xe (tk.imp ?_)
  rintro cls d σ' H' ⟨rfl, G', Γ', e, ⟨α', S'⟩, hx, hsu⟩
  refine ⟨true, hx, fun _ a na oe pn' hz hfl => ?_, fun z => by cases z⟩
  have S2 := S'.setD (v := .ref a) (y := .obj a) hp (.obj a)
  refine (hsu a oe pn' hz hfl F _ H' G' ⟨_, S2⟩).mono ?_ ?_ ?_ ?_
  · rintro σ2 H2 ⟨G2, Γ2, e2, ⟨α2, S3⟩, q⟩
    exact ⟨G2, _, e.trans e2, ⟨α2, S3.forgetS hp⟩, q⟩
  · rintro v H2 ⟨σ2, G2, Γ2, r, e2, S3, q⟩
    exact ⟨σ2, G2, Γ2, r, e.trans e2, S3, q⟩
  · rintro σ2 H2 ⟨G2, Γ2, e2, ⟨α2, S3⟩, q⟩
    exact ⟨G2, _, e.trans e2, ⟨α2, S3.forgetS hp⟩, q⟩
  · rintro σ2 H2 ⟨G2, Γ2, e2, ⟨α2, S3⟩, q⟩
    exact ⟨G2, _, e.trans e2, ⟨α2, S3.forgetS hp⟩, q⟩
/-- isinstance(e, C), e the exception that the suite holds, of the class Dc -/
def PIsE (K : PySem.W.Frag) (Dc a : Addr) (Q : Rs → Gm → Prop) : Rs → Rs → Gm → Prop := fun r s Γ => r = .d (.obj a) ∧ ∃ (C : Addr) (b : Bool), s = .d (.obj C) ∧ PySem.W.kitOne K (.ref Dc) (.ref C) = some b ∧ Q (.d (.bl b)) Γ
theorem ve_isE {a b : Expr} {p pos : Pos} {Q : Rs → Gm → Prop} {ad Dc : Addr} {oe : Obj} {pn : List (Addr × Obj)} (c : ExcC X.K Dc) (hz : Zc (.ref Dc) none oe) (hfl : ∃ vs, oe.data = .fields vs) (hg : Gl X "isinstance") (hm : X.mg "isinstance" = none)
    (h : VE (X.suite ad ((ad, oe) :: pn)) pa a Γ fun r Γ1 => VE (X.suite ad ((ad, oe) :: pn)) pa b Γ1 fun s Γ2 => PIsE X.K Dc ad Q r.fz s.fz Γ2)
    (he : S2 (X.suite ad ((ad, oe) :: pn)) a b := by rfl) (he2 : S1 (X.suite ad ((ad, oe) :: pn)) b := by rfl) (hpl : NoStar (X.suite ad ((ad, oe) :: pn)) pos [b] := by rfl) : VE (X.suite ad ((ad, oe) :: pn)) pa (.Call (.Name "isinstance" p) [a, b] [] pos) Γ Q :=
  ve_call2 (PIsE X.K Dc ad Q) (pe_callB (call_isE c hz hfl) hg hm bb_isi pa_tw (he := he) (hpl := hpl)) h he he2 fun F σ H G0 G Γ α v w r s ee S c1 c2 ⟨er, C, b', es, hk, q⟩ => by
    subst er es
    have hv : v = .ref ad := by
      have z : Re X.K G v (.obj ad) := c1
      cases z; rfl
    have hw : w = .ref C := by
      have z : Re X.K G w (.obj C) := c2
      cases z; rfl
    subst hv hw
    exact ⟨.ref C, .ref C, b', rfl, fun u z => z, hk, Goal.trans ee (goal_bl S q)⟩
end
/-! ### l.count(x) of data -/
def rCntD (K : PySem.W.Frag) : V → List V → Hp → VK → Prop := fun x xs H Q => ∃ (a : Addr) (y : V) (d : PyData) (ds : List PyData), x = V.ref a ∧ xs = [y] ∧ Dp K H (V.ref a) (.list ds) ∧ Dp K H y d ∧ SeqAt.shaped (.list ds) = true ∧ SeqAt.shaped d = true ∧ Q (.int (ds.countP fun z => PyData.eqv z d : Nat)) H
section
variable {X : Cx}
theorem mt_countD (hu : X.A.units + 65 < cLine) : MtR X "list.count" (rCntD X.K) := by
  intro pins s σ H x xs v us Q I rx rxs h
  obtain ⟨a, y, d, ds, rfl, rfl, hl, hy, sl, sd, q⟩ := h
  cases rx
  cases rxs with
  | cons ry rt =>
    rename_i uy ut
    cases rt
    obtain ⟨bs, r1⟩ := Dp.reads I d y uy hy ry
    have hxs : PyData.canLayAll0 ds = true := SeqAt.canLay_of_shaped sl
    have hroom : X.A.units + 1 + min (PyData.depthAll ds) d.depth < cLine := room_in_shaped sd hu
    cases hl with
    | lst hs ha =>
      obtain ⟨its, rv, ⟨⟨cls, dd, data, sls⟩, n, ho, hc, hdn, hdt⟩, hlen⟩ := I.list hs
      simp only at hc hdt
      subst hc hdt
      obtain ⟨as, h4⟩ := Dp.readsAll I ds _ its ha rv
      have hmap : its.map (SeqAt.readOf s.heap) = ds := SeqAt.readsAll_map ds its as hxs h4
      refine call_meets PySem.F.slot_list_count ⟨_, ho, rfl⟩ PySem.F.entry_list_count (PySem.F.args_list_count_2 _ _)
        (SeqAt.list_countAt a its.toArray n dd sls uy (fun u => PyData.eqv (SeqAt.readOf s.heap u) d)) ⟨ho, SeqAt.items_eqAt (vs := its.toArray) (show ReadsAll s.heap its.toArray.toList ds as from h4) r1 hxs (SeqAt.canLay_of_shaped sd) hroom, ?_⟩
      have ec : its.toArray.toList.countP (fun u => PyData.eqv (SeqAt.readOf s.heap u) d) = ds.countP fun z => PyData.eqv z d := by
        rw [← hmap, List.countP_map]; rfl
      refine ⟨.int (ds.countP fun z => PyData.eqv z d : Nat), H, I.tok _, ⟨s.toks, ?_⟩, q⟩
      show Value.int ((its.toArray.toList.countP (fun u => PyData.eqv (SeqAt.readOf s.heap u) d) : Nat) : Int) s.toks = _
      rw [ec]
end
def RCount (Q : Rs → Gm → Prop) : Rs → List Rs → Gm → Prop := fun r rs Γ => ∃ ds s x, rs = [s] ∧ rd Γ r = some (.lst ds) ∧ rd Γ s = some x ∧ (D.lst ds).fit = true ∧ x.fit = true ∧ Q (.d (.int (ds.countP fun z => PyData.eqv z.py x.py : Nat))) Γ
section
variable {X : Cx} {pa : Pin} {Γ : Gm} {Q : Rs → Gm → Prop} {o e : Expr} {apos cpos : Pos}
theorem ve_count (hu : X.A.units + 65 < cLine) (h : VE X pa o Γ fun r Γ1 => TLs r.fz Γ1 ∧ VA X pa [e] Γ1 fun rs Γ2 => RCount Q r.fz rs Γ2)
    (hbase : attributeBase o "count" X.env (eval o X.env) = eval o X.env := by rfl) (hfew : Few X cpos [e] := by rfl) (hline : (apos.endLine == cpos.line) = true := by rfl) (hs : S1 X e := by rfl) (hplain : NoStar X cpos [] := by rfl) : VE X pa (.Call (.Attribute o "count" apos) [e] [] cpos) Γ Q :=
  ve_bm TLs (RCount Q) PySem.F.plainAttrs_list PySem.F.slot_list_count PySem.F.type_list_count (mt_countD hu) h (fun F σ H G Γ α v r S c t => TLs.ty S c t) (fun F σ H G0 G Γ α v rr vs rs ee S c cs ⟨ds, s, x, es, hd, hx, f1, f2, q⟩ => by
    subst es
    obtain ⟨u, eu, cu⟩ := cs.one
    subst eu
    have r1 := c.look S hd
    have r2 := cu.look S hx
    have d1 := r1.dp (D.fit_pl f1)
    have d2 := r2.dp (D.fit_pl f2)
    simp only [D.py] at d1
    obtain ⟨a, ws, ev, _, _⟩ := c.lst S hd
    subst ev
    have sh := D.fit_sh f1
    simp only [D.py] at sh
    refine ⟨a, u, x.py, D.pys ds, rfl, rfl, d1, d2, sh, D.fit_sh f2, .trans ee (goal_int S ?_)⟩
    rw [D.pys_map, List.countP_map]
    exact q) hbase hfew hline hs hplain
end
/-! ### the def that calls a list of lambdas -/
/-- XI cl e: an exception of the class cl is told as e -/
def ActsD (P : Program) (w : World) (K : PySem.W.Frag) (mg : Str → Option Value) (base : Heap) (k : Nat) (fs : List Addr) (H0 : Hp) (h0 : Heap) (XI : Value → Int → Prop) (ds : List D) (es : List Int) : Prop :=
  es.length = ds.length ∧ ∀ (i : Nat) (d : D) (e : Int), ds[i]? = some d → es[i]? = some e → (∃ c vs xs, d = .clo c vs xs) ∧ ActD P w K mg base k fs H0 h0 d fun cl => XI cl e
structure CalE (P : Program) (w : World) (K : PySem.W.Frag) (mg : Str → Option Value) (base : Heap) (k k' : Nat) (x : Str) (XI : Value → Int → Prop) : Prop where
  ex : ∃ (f : Addr) (fd : FuncData) (ps : List Str), mg x = some (.ref f) ∧ PySem.W.keepIn K (.ref f) = true ∧ Binds K fd ps [] ∧ ps.length = 1 ∧
    ∀ (A : Around) (outer : List Env) (s : Shared) (H : Hp) (us : List Value) (vs : List V) (Q : VK), Room k A → A.guards = some [] → Env0 P w K mg base A outer s H → BindsTo s fd ⟨us, []⟩ (ps.zip us) → Vals vs us → vs.length = 1 →
      (∃ (F G : Hp) (α : Nat → Addr) (it : It) (ds : List D) (es : List Int), Sk K (pinI [it] α) F (vs.map some) H G [some it] α ∧ it = .d (.lst ds) ∧ ds.length ≤ 1000 ∧ ActsD P w K mg base k' (frs outer) H s.heap XI ds es ∧
        ∀ v H', (∃ G', EndV K F G α [it] v H' G' [it] (.n (.l (es.map D.int)))) → Q v H') →
      codeAny (model P w) A (.call (.ref f) ⟨us, []⟩) (CR L2.CX0 outer P w H s Q L2.E0) s
theorem cale0 {P : Program} {w : World} {K : PySem.W.Frag} {mg : Str → Option Value} {base : Heap} {x : Str} {st : Stmt} {f : Addr} {fd : FuncData} {N ps : List Str} {k k' : Nat} {XI : Value → Int → Prop} (F : L2.Fun K x x st f fd) (hm : mg x = some (.ref f)) (b : Binds K fd ps []) (hn : ps.length = 1) (S : FnScope N ps (defScope st))
    (hbody : ∀ (cdv : Value) (A : Around) (outer : List Env) (s : Shared) (H : Hp) (E : XK) (it : It) (α : Nat → Addr) (ds : List D) (es : List Int), Room k (A.deeper (envOfC x (defScope st) s.heap.objs.size f cdv)) → (A.deeper (envOfC x (defScope st) s.heap.objs.size f cdv)).guards = some [] → it = .d (.lst ds) → ds.length ≤ 1000 →
      ActsD P w K mg base k' (frs outer) H s.heap XI ds es → VB (bcx P w K mg base N x st f cdv A outer s H E) (pinI [it] α) (defBody st) (gm0 N [it]) (endOf (pinI [it] α) [it] fun r its' => r = .n (.l (es.map D.int)) ∧ its' = [it])) : CalE P w K mg base (k + 1) k' x XI := by
  obtain ⟨oc, od, kV, doc, pm, an, cdv, ct, osl, rfl, lk, hcd⟩ := F.ex
  refine ⟨_, _, ps, hm, F.kp, b, hn, fun A outer s H us vs Q hr hgd e0 hb r hl1 ⟨Fr, G, α, it, ds, es, Sk1, hit, hld, ac, hq⟩ => ?_⟩
  refine LamX.run_ofS (E := E0) lk hcd S hr e0 hb r (by omega) fun hr' => ⟨_, (pss_tw (X := bcx P w K mg base N x st f cdv A outer s H L2.E0)).nox, ?_⟩
  refine (hbody cdv A outer s H L2.E0 it α ds es hr' hgd hit hld ac Fr _ H G ⟨α, sk_start Sk1⟩).mono ?_ ?_ ?_ ?_
  · rintro σ' H' ⟨G', Γ', e, ⟨α', S'⟩, q, _⟩
    cases q
  · rintro v H' ⟨σ', G', Γ', r, e, S', q⟩
    obtain ⟨G2, its', r2, en, rfl, rfl⟩ := sk_end (R := fun r its' => r = .n (.l (es.map D.int)) ∧ its' = [it]) e S' q
    exact hq _ _ ⟨G2, en⟩
  · rintro σ' H' ⟨G', Γ', e, S', q⟩; exact q
  · rintro σ' H' ⟨G', Γ', e, S', q⟩; exact q
/-! ### its call, by the def that made the lambdas -/
section
variable {X : Cx} {pa : Pin} {Γ : Gm} {Q : Rs → Gm → Prop}
/-- what is handed in: a list of lambdas of this context; each raises -/
def PErrs (X : Cx) (k : Nat) (XI : Value → Int → Prop) (Q : Rs → Gm → Prop) : List Rs → Gm → Prop := fun rs Γ => ∃ (cs : List Clo) (es : List Int), rs = [.d (.lst (cs.map fun c => .clo c [] []))] ∧ cs.length ≤ 1000 ∧ es.length = cs.length ∧
  (∀ (i : Nat) (c : Clo) (e : Int), cs[i]? = some c → es[i]? = some e → LamOk X Γ k c fun cl => XI cl e) ∧ Q (.n (.l (es.map D.int))) Γ
/-- the lambdas, told with the values that they may want -/
theorem clo_tell {K : PySem.W.Frag} {G : Hp} {vs : List V} {ds : List D} (r : ReA K G vs ds) : ∀ {us : List V} {cs : List Clo}, ReA K G us (cs.map fun c => D.clo c [] []) → ReA K G us (cs.map fun c => D.clo c vs ds)
  | _, [], .nil => .nil
  | _, c :: cs, .cons (.clo h h2 _) t => .cons (.clo h h2 r) (clo_tell r t)
theorem clo_untell {K : PySem.W.Frag} {G : Hp} {vs : List V} {ds : List D} : ∀ {us : List V} {cs : List Clo}, ReA K G us (cs.map fun c => D.clo c vs ds) → ReA K G us (cs.map fun c => D.clo c [] [])
  | _, [], .nil => .nil
  | _, c :: cs, .cons (.clo h h2 _) t => .cons (.clo h h2 .nil) (clo_untell t)
end
end AV
set_option Elab.async false
set_option linter.all false
set_option maxRecDepth 100000
set_option maxHeartbeats 4000000
namespace AV
open PySem PySem.Spec PyProof.Rows L2
theorem sk_tell1 {K : PySem.W.Frag} {F : Hp} {σ : L2.St} {H G : Hp} {α : Nat → Addr} {it it' : It} (S : Sk K (pinI [it] α) F σ H G [some it] α)
    (h : (∃ x y, it = .d x ∧ it' = .d y ∧ ∀ v, Re K G v x → Re K G v y) ∨ (∃ c c', it = .o c ∧ it' = .o c' ∧ ∀ ho, RC K G ho c → RC K G ho c')) : Sk K (pinI [it'] α) F σ H G [some it'] α := by
  refine ⟨S.ext, S.fr, S.len, fun i z hi => ?_, fun i j c c' hi hj e => ?_, fun i p hp => ?_, fun p hp => (by cases hp)⟩
  · cases i with
    | succ i => simp at hi
    | zero =>
      have e : z = it' := by simpa using hi.symm
      subst e
      have q := S.sl 0 it rfl
      rcases h with ⟨x, y, rfl, rfl, f⟩ | ⟨c, c', rfl, rfl, f⟩
      · obtain ⟨v, e1, e2⟩ := q; exact ⟨v, e1, f v e2⟩
      · obtain ⟨e1, e2, e3, ho, e4, e5⟩ := q; exact ⟨e1, e2, e3, ho, e4, f ho e5⟩
  · cases i with
    | succ i => simp at hi
    | zero =>
      cases j with
      | succ j => simp at hj
      | zero => rfl
  · obtain ⟨e, c, hc⟩ := pinI_some hp
    exact ⟨e.symm, c, by rw [← hc]; cases i with
      | zero => rfl
      | succ i => simp at hc⟩
theorem endV_tell1 {K : PySem.W.Frag} {F G : Hp} {α : Nat → Addr} {it it' : It} {v : V} {H' G' : Hp} {r : Rs} (E : EndV K F G α [it'] v H' G' [it'] r)
    (h : (∃ x y, it = .d x ∧ it' = .d y) ∨ (∃ c c', it = .o c ∧ it' = .o c' ∧ ∀ ho, RC K G' ho c' → RC K G' ho c)) : EndV K F G α [it] v H' G' [it] r := by
  refine ⟨E.ex, E.ext, E.fr, rfl, fun i c0 hi => ?_, ?_⟩
  · cases i with
    | succ i => simp at hi
    | zero =>
      have e : it = .o c0 := by simpa using hi
      rcases h with ⟨x, y, h1, h2⟩ | ⟨c, c', h1, h2, f⟩
      · rw [h1] at e; cases e
      · rw [h1] at e; cases e
        obtain ⟨c2, e2, e3, ho, e4, e5⟩ := E.ow 0 c' (by rw [h2]; rfl)
        have e6 : c2 = c' := by
          rw [h2] at e2
          have e2' : It.o c' = It.o c2 := by simpa using e2
          exact (It.o.inj e2').symm
        subst e6
        exact ⟨_, by rw [h1]; rfl, e3, ho, e4, f ho e5⟩
  · have res := E.res
    cases r with
    | d x => exact res
    | s j => exact res
    | n c =>
      obtain ⟨p, ho, e1, e2, e3, e4, e5, e6⟩ := res
      refine ⟨p, ho, e1, e2, e3, fun i c0 hi => ?_, e5, e6⟩
      cases i with
      | succ i => simp at hi
      | zero =>
        have e : it = .o c0 := by simpa using hi
        rcases h with ⟨x, y, h1, h2⟩ | ⟨c1, c', h1, h2, f⟩
        · rw [h1] at e; cases e
        · exact e4 0 c' (by rw [h2]; rfl)
section
variable {X : Cx} {pa : Pin} {Γ : Gm} {Q : Rs → Gm → Prop}
/-- the def that calls the lambdas, called by the def that made them -/
theorem ve_errs {x : Str} {e : Expr} {p pos : Pos} {k k' : Nat} {XI : Value → Int → Prop} (cE : CalE X.prog X.w X.K X.mg X.base k (k' + 1) x XI) (hr : Room k X.A) (hgd : X.A.guards = some []) (hg : Gl X x) (ha : VA X pa [e] Γ (PErrs X k' XI Q))
    (hdb : (x == ("__debug__" : Str)) = false := by decide) (he : starEach [e] X.env = (false, eval e X.env) :: starEach [] X.env := by rfl) (hpl : (backTo pos (starEach [] X.env)).any (·.1) = false := by rfl) : VE X pa (.Call (.Name x p) [e] [] pos) Γ Q := by
  obtain ⟨f, fd, ps, hm, hk, hb, hps, run⟩ := cE.ex
  intro F σ H G S pins s I
  refine wpAny_Call_Name_kw (ld_glob I hg hm ?_ hdb)
  refine PySem.W.callWith_K (h₀ := X.base) I.ok.mod.kin hk (thn (ha F σ H G S pos pins s I) fun us s1 ⟨vs, H1, I1, r1, hh⟩ => ⟨I1.kIn, ?_⟩) he hpl
  obtain ⟨G1, Γ1, rs, e1, ⟨α, S1⟩, cv, cs, es, rfl, hlen, hes, hlam, hq⟩ := hh
  have ok : SlotsOk Γ1 [Rs.d (.lst (cs.map fun c => D.clo c [] []))] := so0 rfl
  have hlv : vs.length = 1 := by rw [cv.length]; rfl
  have hlu : us.length = 1 := by rw [← hlv]; exact r1.length.symm
  have hb1 := hb s1 us I1.kIn (by rw [List.append_nil, hlu, hps])
  rw [List.append_nil] at hb1
  have hcap := cap_re S1
  have tell : ∀ (G2 : Hp) (v : V), Ex G1 G2 → Re X.K G2 v (.lst (cs.map fun c => .clo c [] [])) → Re X.K G2 v (.lst (cs.map fun c => .clo c (capV σ Γ1) (capD Γ1))) := fun G2 v e2 re => by
    cases re with
    | lst ha hra => exact .lst ha (clo_tell (hcap.mono e2) hra)
  have acts : ActsD X.prog X.w X.K X.mg X.base (k' + 1) (frs X.stack) H1 s1.heap XI (cs.map fun c => .clo c (capV σ Γ1) (capD Γ1)) es := by
    refine ⟨by simp [hes], fun i d e' hd he' => ?_⟩
    rw [List.getElem?_map] at hd
    cases qc : cs[i]? with
    | none => rw [qc] at hd; cases hd
    | some c =>
      rw [qc] at hd
      cases hd
      exact ⟨⟨_, _, _, rfl⟩, act_of I1 S1 (hlam i c e' qc he')⟩
  have Sc : Sk X.K (pinI [.d (.lst (cs.map fun c => D.clo c [] []))] (alC α [Rs.d (.lst (cs.map fun c => D.clo c [] []))])) (frC F H1 α Γ1 [Rs.d (.lst (cs.map fun c => D.clo c [] []))]) (vs.map some) H1 G1 [some (.d (.lst (cs.map fun c => D.clo c [] [])))] (alC α [Rs.d (.lst (cs.map fun c => D.clo c [] []))]) := sk_call S1 cv ok
  refine wpAny_call (codeAny_mono (run X.A X.stack s1 H1 us vs (fun v H' => ∃ G' Γ' r, Ex G G' ∧ StR X.K pa F σ H' G' Γ' v r ∧ Q r Γ') hr hgd I1.env0 hb1 r1 hlv ?_) fun r' s' hq' => ?_)
  · refine ⟨_, G1, _, .d (.lst (cs.map fun c => .clo c (capV σ Γ1) (capD Γ1))), _, es, sk_tell1 Sc (.inl ⟨_, _, rfl, rfl, fun v re => tell G1 v (Ex.refl _) re⟩), rfl, by simpa using hlen, acts, ?_⟩
    rintro v H2 ⟨G2, en⟩
    have en2 : EndV X.K (frC F H1 α Γ1 [Rs.d (.lst (cs.map fun c => D.clo c [] []))]) G1 (alC α [Rs.d (.lst (cs.map fun c => D.clo c [] []))]) ([Rs.d (.lst (cs.map fun c => D.clo c [] []))].map (itOf Γ1)) v H2 G2 [.d (.lst (cs.map fun c => D.clo c [] []))] (.n (.l (es.map D.int))) := endV_tell1 en (.inl ⟨_, _, rfl, rfl⟩)
    have b := sk_back S1 ok en2
    exact ⟨G2, Γ1, _, e1.trans en.ex, b, hq⟩
  · cases r' with
    | error u => exact False.elim hq'
    | ok fl =>
      cases fl with
      | ret u => exact I1.after hq'
      | next => exact False.elim hq'
      | brk => exact False.elim hq'
      | cont => exact False.elim hq'
end
end AV
set_option Elab.async false
set_option linter.all false
set_option maxRecDepth 100000
set_option maxHeartbeats 4000000
namespace AV
open PySem PySem.Spec PyProof.Rows L2
/-! ## defs that make lambdas; the law's start with tables -/
/-- with the tables of code objects that may grow here -/
def pinT (its : List It) (α : Nat → Addr) (T : List (Addr × Str)) : Pin := ⟨(pinI its α).ad, T⟩
theorem sk_noT {K : PySem.W.Frag} {its : List It} {β α : Nat → Addr} {T : List (Addr × Str)} {F : Hp} {σ : L2.St} {H G : Hp} {Γ : Gm} (S : Sk K (pinT its β T) F σ H G Γ α) : Sk K (pinI its β) F σ H G Γ α :=
  ⟨S.ext, S.fr, S.len, S.sl, S.inj, S.pin, fun p hp => nomatch (show p ∈ ([] : List (Addr × Str)) from hp)⟩
theorem sk_toT {K : PySem.W.Frag} {its : List It} {β α : Nat → Addr} {T : List (Addr × Str)} {F : Hp} {σ : L2.St} {H G : Hp} {Γ : Gm} (S : Sk K (pinI its β) F σ H G Γ α) (h : ∀ p ∈ T, ∃ t, F p.1 = some (.tbl #[.str p.2 t])) : Sk K (pinT its β T) F σ H G Γ α :=
  ⟨S.ext, S.fr, S.len, S.sl, S.inj, S.pin, h⟩
def SpVT (K : PySem.W.Frag) (T : List (Addr × Str)) (n : Nat) (sp : SpT) : Sp := fun vs H Q _ => vs.length = n ∧ ∃ (F G : Hp) (α : Nat → Addr) (its : List It) (R : Rs → List It → Prop),
  its.length = n ∧ Sk K (pinT its α T) F (vs.map some) H G (its.map some) α ∧ sp its R ∧ ∀ v H', (∃ G' its' r, EndV K F G α its v H' G' its' r ∧ R r its') → Q v H'
structure CalT (P : Program) (w : World) (K : PySem.W.Frag) (mg : Str → Option Value) (base : Heap) (T : List (Addr × Str)) (k : Nat) (x : Str) (n : Nat) (sp : SpT) : Prop where
  ex : ∃ (f : Addr) (fd : FuncData) (ps : List Str), FnG P w K mg base L2.CX0 k f fd ps (SpVT K T ps.length sp) ∧ mg x = some (.ref f) ∧ PySem.W.keepIn K (.ref f) = true ∧ Binds K fd ps [] ∧ ps.length = n
/-- a def that makes lambdas: its code object and its table are told -/
theorem calt0 {P : Program} {w : World} {K : PySem.W.Frag} {mg : Str → Option Value} {base : Heap} {T : List (Addr × Str)} {x : Str} {st : Stmt} {fd : FuncData} {N ps : List Str} {k n : Nat} {sp : SpT} (F : L2.Fun K x x st (He.ga K x) fd) (hm : mg x = some (.ref (He.ga K x))) (b : Binds K fd ps []) (hn : ps.length = n) (S : FnScope N ps (defScope st))
    (hbody : ∀ (cdv : Value) (A : Around) (outer : List Env) (s : Shared) (H : Hp) (E : XK) (its : List It) (α : Nat → Addr) (R : Rs → List It → Prop), cdv = .ref (He.codeOf K (x, none)) → Room k (A.deeper (envOfC x (defScope st) s.heap.objs.size (He.ga K x) cdv)) → (A.deeper (envOfC x (defScope st) s.heap.objs.size (He.ga K x) cdv)).guards = some [] → sp its R →
      VB (bcx P w K mg base N x st (He.ga K x) cdv A outer s H E) (pinT its α T) (defBody st) (gm0 N its) (endOf (pinI its α) its R)) : CalT P w K mg base T (k + 1) x n sp := by
  obtain ⟨oc, od, kV, doc, pm, an, cdv, ct, osl, rfl, lk, hcd⟩ := F.ex
  obtain ⟨cd, rfl⟩ := He.codeIn_ref hcd
  have ec : He.codeOf K (x, none) = cd := He.codeOf_eq (p := (x, none)) lk rfl
  refine ⟨_, _, ps, fn_ofG lk hcd S (fun vs H Q E h => h.1) fun A outer s H vs Q E hr hgd ⟨hl, Fr, G, α, its, R, hl2, S, hsp, hq⟩ => ⟨_, (pss_tw (X := bcx P w K mg base N x st (He.ga K x) (.ref cd) A outer s H E)).nox, ?_⟩, hm, F.kp, b, hn⟩
  refine (hbody (.ref cd) A outer s H E its α R (by rw [ec]) hr hgd hsp Fr _ H G ⟨α, sk_toT (sk_start (sk_noT S)) S.tab⟩).mono ?_ ?_ ?_ ?_
  · rintro σ' H' ⟨G', Γ', e, ⟨α', S'⟩, q⟩
    exact hq _ _ (sk_end (r := .d .non) e ⟨α', sk_noT S', .non⟩ q)
  · rintro v H' ⟨σ', G', Γ', r, e, ⟨α', S', rv⟩, q⟩
    exact hq _ _ (sk_end e ⟨α', sk_noT S', rv⟩ q)
  · rintro σ' H' ⟨G', Γ', e, S', q⟩; exact q
  · rintro σ' H' ⟨G', Γ', e, S', q⟩; exact q
theorem lk_mem {b : Addr} {q : Str} : ∀ {T : List (Addr × Str)}, T.lookup b = some q → (b, q) ∈ T
  | [], h => by cases h
  | (c, r) :: T, h => by
    by_cases e : b = c
    · subst e
      rw [List.lookup_cons, beq_self_eq_true] at h
      cases h; exact List.mem_cons_self
    · rw [List.lookup_cons, beq_eq_false_iff_ne.mpr e] at h
      exact List.mem_cons_of_mem _ (lk_mem h)
/-- the script and the tables at the law's call -/
theorem law_startT {K : PySem.W.Frag} {H : Hp} {a : Addr} {ns : List Int} {T : List (Addr × Str)} {E : XK} (hl : ns.length ≤ 63) (hs : SqL K H a (ns.map V.int)) (hT : ∀ p ∈ T, H p.1 = some (.tbl #[])) (hu : ∀ p ∈ T, T.lookup p.1 = some p.2) : SpVT K T 1 spLaw [.ref a] H (fun v _ => v = .bl true) E := by
  have mem : ∀ {b : Addr} {q : Str}, T.lookup b = some q → H b = some (.tbl #[]) := fun {b q} h => hT (b, q) (lk_mem h)
  refine ⟨rfl, fun b => (T.lookup b).map fun q => .tbl #[.str q 0], fun b => if (T.lookup b).isSome then none else H b, fun _ => 0, [.d (.scr ns)], fun r _ => r = .d (.bl true), rfl, ⟨fun b o h => ?_, fun b o h => ?_, rfl, fun i it hi => ?_, fun i j c c' hi hj _ => ?_, fun i p hp => ?_, fun p hp => ⟨0, by rw [hu p hp]; rfl⟩⟩, ⟨ns, rfl, hl, rfl⟩, ?_⟩
  · have h' : (if (T.lookup b).isSome then none else H b) = some o := h
    split at h'
    · cases h'
    · exact h'
  · have h' : (T.lookup b).map (fun q => HO.tbl #[.str q 0]) = some o := h
    cases q : T.lookup b with
    | none => rw [q] at h'; cases h'
    | some z =>
      rw [q] at h'
      cases h'
      refine ⟨⟨z, 0, #[], rfl, mem q, True.intro, fun pos cv hc => ?_⟩, by simp⟩
      have z' : codeAmong pos [] = some cv := hc
      simp [codeAmong] at z'
  · cases i with
    | zero =>
      have e : it = .d (.scr ns) := by simpa using hi.symm
      subst e
      refine ⟨.ref a, rfl, .scr ns ?_⟩
      have na : ∀ u, H a = some u → (∀ ps, u ≠ .tbl ps) → (fun b => if (T.lookup b).isSome then none else H b) a = some u := fun u hu' n => by
        show (if (T.lookup a).isSome then none else H a) = some u
        cases q : T.lookup a with
        | none => exact hu'
        | some z => rw [mem q] at hu'; exact absurd (Option.some.inj hu').symm (n _)
      rcases hs with (h | ⟨o, h⟩) | h
      · exact .inl (.inl (na _ h fun _ z => by cases z))
      · exact .inl (.inr ⟨o, na _ h fun _ z => by cases z⟩)
      · exact .inr h
    | succ i => simp at hi
  · cases i with
    | zero => simp at hi
    | succ i => simp at hi
  · obtain ⟨_, c, e⟩ := pinI_some (its := [.d (.scr ns)]) (α := fun _ => 0) hp
    cases i with
    | zero => simp at e
    | succ i => simp at e
  · rintro v H' ⟨G', its', r, en, rfl⟩
    exact Re.blE en.res
theorem law_callT {P : Program} {w : World} {K : PySem.W.Frag} {mg mb : Str → Option Value} {k : Nat} {fa a : Addr} {x : Str} {T : List (Addr × Str)} {cs : List (Addr × Addr)} {s₁ : Shared} {vs : List Value} {ns : List Int}
    (KX : K.In s₁.heap) (hns : s₁.heap.Ns mainGlobals mg) (hb : s₁.heap.Ns builtinsNs mb) (hbb : ∀ x : Str, x ≠ "__name__" → mb x = bootBuiltins x) (hlim : s₁.heap.NoLimit) (hg : s₁.gens = #[])
    (hT : ∀ p ∈ cs, s₁.heap.get? p.2 = some { cls := .none, data := .fields #[] }) (nT : ∀ p ∈ cs, K.lookup p.2 = none) (Cd : ∀ p ∈ cs, PySem.W.CodeHd s₁.heap p.1 p.2) (hTc : ∀ p ∈ T, p.1 ∈ cs.map (·.2)) (hTu : ∀ p ∈ T, T.lookup p.1 = some p.2)
    (hbm : ∃ (bm : Addr) (ob : Obj), mg "__builtins__" = some (.ref bm) ∧ bm ≠ builtinsNs ∧ s₁.heap.get? bm = some ob ∧ ob.cls = .type "module" ∧ ob.dict = some builtinsNs ∧ ob.data = .plain)
    (ha : s₁.heap.get? a = some { cls := .type "list", data := .seq vs.toArray }) (hi : IntsAre vs ns) (hl : ns.length ≤ sizeLine) (hr : Room k callerA)
    (hmx : mg x = some (.ref fa)) (F : ∀ base : Heap, K.In base → base.Ns mainGlobals mg → (∀ p ∈ cs, LamX.TabB base mg p.1 p.2) → CalT P w K mg base T k x 1 spLaw) (hl63 : ns.length ≤ 63) :
    codeAny (model P w) callerA (.call (.ref fa) ⟨[.ref a], []⟩) (fun r s' => r = .ok (.ret (.bool true)) ∧ OldK s₁.heap s'.heap ∧ s'.os = s₁.os ∧ AllBare s'.gens) s₁ := by
  have rv := vals_ints hi
  have lenV := hi.length
  have isT : ∀ b ∈ cs.map (·.2), s₁.heap.get? b = some { cls := .none, data := .fields #[] } := fun b hb => by
    obtain ⟨p, hp, e⟩ := List.mem_map.mp hb
    rw [← e]; exact hT p hp
  have aT : a ∉ cs.map (·.2) := fun z => by
    have q := isT a z
    rw [ha] at q
    have z' : Data.seq vs.toArray _ = Data.fields #[] := congrArg Obj.data (Option.some.inj q)
    cases z'
  have core : ∀ H : Hp, (∀ b ∈ cs.map (·.2), H b = some (.tbl #[])) → (∀ b, H b = none ∨ b ∈ cs.map (·.2) ∨ ∃ o xs, H b = some (.frz o (.lst xs))) → SqL K H a (ns.map V.int) → HOk P w H s₁.heap → (∀ b, H b ≠ none → b = a ∨ b ∈ cs.map (·.2)) → (H a ≠ none → K.lookup a = none) →
      codeAny (model P w) callerA (.call (.ref fa) ⟨[.ref a], []⟩) (fun r s' => r = .ok (.ret (.bool true)) ∧ OldK s₁.heap s'.heap ∧ s'.os = s₁.os ∧ AllBare s'.gens) s₁ := by
    intro H hH hO hS hok hA hK
    have base_of : ∀ {b : Addr} {o : Obj}, s₁.heap.get? b = some o → H b = none → (hidT s₁.heap H).get? b = some o := fun e n => hidT_get e n
    have noD : ∀ {b : Addr} {o : Obj}, s₁.heap.get? b = some o → (∀ us n, o.data ≠ .seq us n) → o.data ≠ .fields #[] → H b = none := fun {b o} e h1 h2 => by
      cases q : H b with
      | none => rfl
      | some u =>
        rcases hA b (by rw [q]; simp) with z | z
        · rw [z, ha] at e; cases e
          exact absurd rfl (h1 _ _)
        · rw [isT b z] at e; cases e
          exact absurd rfl h2
    have noA : ∀ {b : Addr} {o : Obj} {es : Array DictEntry} {ep : Nat}, s₁.heap.get? b = some o → o.data = .dict es ep → H b = none := fun {b o es ep} e d =>
      noD e (fun us n z => by rw [d] at z; cases z) fun z => by rw [d] at z; cases z
    have nsK : ∀ {b : Addr} {m : Str → Option Value}, s₁.heap.Ns b m → (hidT s₁.heap H).Ns b m := fun {b m} ⟨o, es, ep, e, d, r⟩ => ⟨o, es, ep, base_of e (noA e d), d, r⟩
    have hKb : K.In (hidT s₁.heap H) := fun b o e => base_of (KX b o e) (by
      cases q : H b with
      | none => rfl
      | some u =>
        rcases hA b (by rw [q]; simp) with z | z
        · subst z
          rw [hK (by rw [q]; simp)] at e; cases e
        · obtain ⟨p, hp, e'⟩ := List.mem_map.mp z
          rw [← e', nT p hp] at e; cases e)
    have hM : Mod K mg (hidT s₁.heap H) := ⟨hKb, nsK hns, ⟨mb, nsK hb, hbb⟩, let ⟨mc, h1, h2⟩ := hlim; ⟨mc, nsK h1, h2⟩⟩
    have TB : ∀ p ∈ cs, LamX.TabB (hidT s₁.heap H) mg p.1 p.2 := fun p hp => by
      have hTp := hT p hp
      refine ⟨?_, ?_, fun z => ?_⟩
      · obtain ⟨o, us, file, tf, flags, tg, inF, text, tt, e1, r1, r2, r3, r4, r5, r6, r7, r8, hne⟩ := Cd p hp
        refine ⟨o, us, file, tf, flags, tg, inF, text, tt, base_of e1 (noD e1 (fun us' n z => by rw [r2] at z; cases z) fun z => ?_), r1, r2, r3, r4, r5, r6, r7, r8, hne⟩
        rw [r2] at z; cases z
        simp at r3
      · obtain ⟨bm, ob, b1, b2, b3, b4, b5, b6⟩ := hbm
        have nG : bm ≠ mainGlobals := fun q => by
          obtain ⟨o, es, ep, e, hd, _⟩ := hns
          rw [q, e] at b3; cases b3
          rw [hd] at b6; cases b6
        have nP : bm ≠ p.2 := fun q => by
          rw [q, hTp] at b3; cases b3; cases b6
        exact ⟨bm, ob, b1, b2, nG, nP, base_of b3 (noD b3 (fun us n z => by rw [b6] at z; cases z) fun z => by rw [b6] at z; cases z), b4, b5, b6⟩
      · obtain ⟨o, es, ep, e, hd, _⟩ := hns
        rw [z, hTp] at e; cases e; cases hd
    have e0 : Env0 P w K mg (hidT s₁.heap H) callerA [] s₁ H := ⟨rfl, hM, fun b o e => of_hidT e, Nat.le_of_eq (hidT_size _ _), trivial, fun b hb => absurd (show b ∈ ([] : List Addr) from hb) (by simp), hok, .of_eq hg⟩
    obtain ⟨f, fd, ps, Fn, hmf, hkf, hbf, hps⟩ := (F _ hKb (nsK hns) TB).ex
    rw [hmx] at hmf; cases hmf
    have hb1 := hbf s₁ [.ref a] KX (by rw [hps]; rfl)
    rw [List.append_nil] at hb1
    have h0 : SpVT K T ps.length spLaw [.ref a] H (fun v _ => v = .bl true) fun _ _ _ => False := by rw [hps]; exact law_startT hl63 hS (fun p hp => hH _ (hTc p hp)) hTu
    refine codeAny_mono (Fn.run callerA [] s₁ H ⟨[.ref a], []⟩ [.ref a] [.ref a] _ _ hr rfl e0 hb1 (.cons rfl .nil) h0) fun r s' h => ?_
    cases r with
    | error e => exact False.elim h
    | ok fl =>
      cases fl with
      | next => exact False.elim h
      | brk => exact False.elim h
      | cont => exact False.elim h
      | ret u =>
        obtain ⟨v, H', os, bare, un, hok', r', q⟩ := h
        have q' : v = .bl true := q
        subst q'
        obtain rfl : u = Value.bool true := r'
        have key : ∀ b o, b ∉ cs.map (·.2) → s₁.heap.get? b = some o → s'.heap.get? b = some o := fun b o nb e => by
          cases q : H b with
          | none => exact un.keep b o e q (by intro z; exact absurd (show b ∈ ([] : List Addr) from z) (by simp)) (by simp)
          | some u =>
            rcases hO b with z | z | ⟨ob, xs, z⟩
            · rw [q] at z; cases z
            · exact absurd z nb
            · obtain ⟨e1, _⟩ := hok b _ z
              obtain ⟨e2, _⟩ := hok' b _ (un.frzs b ob _ z)
              rw [e] at e1; cases e1
              exact e2
        have grown : ∀ p ∈ cs, ∃ more : Array Value, s'.heap.get? p.2 = some { cls := .none, data := .fields more } := fun p hp => by
          obtain ⟨more, z⟩ := un.tbls p.2 #[] (hH p.2 (List.mem_map.mpr ⟨p, hp, rfl⟩))
          exact ⟨_, hok' p.2 _ z⟩
        refine ⟨rfl, ⟨fun b o e => ?_, fun b o e => ?_⟩, os, bare⟩
        · by_cases hb : b ∈ cs.map (·.2)
          · obtain ⟨p, hp, ep⟩ := List.mem_map.mp hb
            obtain ⟨more, hm⟩ := grown p hp
            rw [← ep] at e ⊢
            rw [hT p hp] at e; cases e
            exact .inr (.inl ⟨((Cd p hp).tab (hT p hp)).isCodeTable, rfl, #[], more, rfl, by rw [Array.empty_append]; exact hm⟩)
          · exact .inl (key b o hb e)
        · by_cases hb : b ∈ cs.map (·.2)
          · obtain ⟨p, hp, ep⟩ := List.mem_map.mp hb
            obtain ⟨more, hm⟩ := grown p hp
            rw [← ep]; exact ⟨_, hm⟩
          · exact ⟨o, key b o hb e⟩
  cases hk : K.lookup a with
  | some o =>
    have e := KX a o hk
    rw [ha] at e
    cases e
    refine core (fun b => if b ∈ cs.map (·.2) then some (.tbl #[]) else none) (fun b hb => if_pos hb) (fun b => ?_) (.inr ⟨_, vs.toArray, _, hk, rfl, rfl, rfl, by rw [List.size_toArray, lenV]; exact hl, by simpa using rv⟩) (fun b u z => ?_) (fun b z => ?_) fun z => absurd (if_neg aT) z
    · by_cases hb : b ∈ cs.map (·.2)
      · exact .inr (.inl hb)
      · exact .inl (if_neg hb)
    · by_cases hb : b ∈ cs.map (·.2)
      · have z' := (if_pos hb).symm.trans z
        cases z'
        exact isT b hb
      · have z' := (if_neg hb).symm.trans z
        cases z'
    · by_cases hb : b ∈ cs.map (·.2)
      · exact .inr hb
      · exact absurd (if_neg hb) z
  | none =>
    refine core (fun b => if b = a then some (.frz { cls := .type "list", data := .seq vs.toArray } (.lst (ns.map V.int))) else if b ∈ cs.map (·.2) then some (.tbl #[]) else none) (fun b hb => (if_neg fun z => aT (by rw [← z]; exact hb)).trans (if_pos hb)) (fun b => ?_) (.inl (.inr ⟨{ cls := .type "list", data := .seq vs.toArray }, if_pos rfl⟩)) (fun b u z => ?_) (fun b z => ?_) fun _ => hk
    · by_cases hb : b = a
      · exact .inr (.inr ⟨_, _, if_pos hb⟩)
      · by_cases hb2 : b ∈ cs.map (·.2)
        · exact .inr (.inl hb2)
        · exact .inl ((if_neg hb).trans (if_neg hb2))
    · by_cases hb : b = a
      · have z' := (if_pos hb).symm.trans z
        cases z'
        rw [hb]
        exact ⟨ha, by rw [List.length_map]; exact hl, vs, _, rv, ha⟩
      · have z1 := (if_neg hb).symm.trans z
        by_cases hb2 : b ∈ cs.map (·.2)
        · have z' := (if_pos hb2).symm.trans z1
          cases z'
          exact isT b hb2
        · have z' := (if_neg hb2).symm.trans z1
          cases z'
    · by_cases hb : b = a
      · exact .inl hb
      · by_cases hb2 : b ∈ cs.map (·.2)
        · exact .inr hb2
        · exact absurd ((if_neg hb).trans (if_neg hb2)) z
/-- a law of which one def (the law itself) makes lambdas -/
theorem walk_ofET {l : PySem.W.OpenLaw} {n k : Nat} {q : Program} {loose : List Str} {XP : (Str → Option Value) → Heap → Prop} {YP : World → Heap → Prop} {d : DefRec}
    (hn : l.most = some n) (hn2 : n ≤ 63) (hdf : d.params.defaults = []) (hr : Room k callerA)
    (F : ∀ (w : World) (mg : Str → Option Value) (h : Heap), YP w h → h.Ns mainGlobals mg →
      ∃ (K : PySem.W.Frag) (cs : List (Addr × Addr)) (T : List (Addr × Str)), K.In h ∧ (∀ p ∈ cs, h.get? p.2 = some { cls := .none, data := .fields #[] }) ∧ (∀ p ∈ cs, K.lookup p.2 = none) ∧ (∀ p ∈ cs, PySem.W.CodeHd h p.1 p.2) ∧ (∀ p ∈ T, p.1 ∈ cs.map (·.2)) ∧ (∀ p ∈ T, T.lookup p.1 = some p.2) ∧
        ∀ base : Heap, K.In base → base.Ns mainGlobals mg → (∀ p ∈ cs, LamX.TabB base mg p.1 p.2) → CalT l.prog w K mg base T k d.name 1 spLaw) :
    PySem.W.WalkO q loose XP YP l.row.toRowW d [] (fun f vs => PySem.call f vs) := by
  refine Att.attach_callB hn hdf fun w s₀ s₁ mg mb fa o pm cd doc a vs ns G Y ho hd hcd hmg hobj hints hlen hbits hg => ?_
  obtain ⟨K, cs, T, KX, hT, nT, Cd, hTc, hTu, hF⟩ := F w mg _ Y G.T.g
  have h63 : (63 : Nat) ≤ sizeLine := by decide
  exact law_callT KX G.T.g G.T.b G.T.builtins G.T.nolimit hg hT nT Cd hTc hTu G.T.bmain hobj hints (Nat.le_trans hlen (Nat.le_trans hn2 h63)) hr hmg hF (Nat.le_trans hlen hn2)
end AV
set_option Elab.async false
set_option linter.all false
set_option maxRecDepth 100000
set_option maxHeartbeats 4000000
namespace LB
open PySem PySem.Spec PyProof.Rows L2 AV
abbrev hD (cs : List Int) (p q r u : Int) : List D := [.lst (cs.map D.int), .int p, .int q, .int r, .int u]
def spDraw : SpT := fun its R => ∃ (cs : List Int) (p q r u many : Int), its = [.o (.l (hD cs p q r u)), .d (.int many)] ∧ 0 ≤ p ∧ 0 < many ∧ many < 1073741824 ∧
  ∀ (d : Int) (cs : List Int) (p q r u : Int), 0 ≤ d → d < many → 0 ≤ p → R (.d (.int d)) [.o (.l (hD cs p q r u)), .d (.int many)]
end LB
namespace LB
open PySem PySem.Spec PyProof.Rows L2 AV
theorem at_ints {cs : List Int} {p : Int} (h0 : 0 ≤ p) (h1 : p < (cs.map D.int).length) : ∃ c, atI (cs.map D.int) p = some (.int c) := by
  obtain ⟨j, rfl⟩ : ∃ j : Nat, p = j := ⟨p.toNat, by omega⟩
  have hj : j < cs.length := by simpa using h1
  exact ⟨cs[j], atI_nat (by simp [hj])⟩
end LB
namespace LB
open PySem PySem.Spec PyProof.Rows L2 AV
structure BI (mg : Str → Option Value) : Prop where
  len : mg "len" = none
  int : mg "int" = none
  abs : mg "abs" = none
  sum : mg "sum" = none
  tuple : mg "tuple" = none
  list : mg "list" = none
  repr : mg "repr" = none
  range : mg "range" = none
  isi : mg "isinstance" = none
  all : mg "all" = none
  max : mg "max" = none
  min : mg "min" = none
  enum : mg "enumerate" = none
  bool : mg "bool" = none
  any : mg "any" = none
  sorted : mg "sorted" = none
  zip : mg "zip" = none
  set : mg "set" = none
  str : mg "str" = none
/-- the module's name x stands for an int -/
def CI (mg : Str → Option Value) (x : Str) (i : Int) : Prop := ∃ t, mg x = some (.int i t)
abbrev tI (ns : List Int) : D := .tup (ns.map D.int)
/-- is_integer of data: none where it is not said -/
def isIntD : D → Option Bool
  | .int _ => some true
  | .bl _ => some false
  | x => match x.tyN with
    | some _ => some false
    | none => none
def spIsInt : SpT := fun its R => ∃ (x : D) (b : Bool), its = [.d x] ∧ isIntD x = some b ∧ R (.d (.bl b)) [.d x]
def spWithin : SpT := fun its R => ∃ n a b : Int, its = [.d (.int n), .d (.int a), .d (.int b)] ∧ R (.d (.bl (decide (a ≤ n ∧ n ≤ b)))) [.d (.int n), .d (.int a), .d (.int b)]
structure OkL (ls : List Int) : Prop where
  ne : 1 ≤ ls.length
  len : ls.length ≤ 6
  pos : ∀ n ∈ ls, 1 ≤ n
  sum : ls.sum ≤ 60
def spAreL : SpT := fun its R => ∃ ls : List Int, its = [.d (tI ls)] ∧ OkL ls ∧ R (.d (.bl true)) [.d (tI ls)]
structure OkO (k : Nat) (os : List Int) : Prop where
  len : os.length = k
  nd : os.Nodup
  lo : ∀ n ∈ os, 0 ≤ n ∧ n < k
def spIsO : SpT := fun its R => ∃ os : List Int, its = [.d (tI os)] ∧ 1 ≤ os.length ∧ os.length ≤ 6 ∧ OkO os.length os ∧ R (.d (.bl true)) [.d (tI os)]
end LB
namespace LB
theorem mem_le_sum : ∀ {ls : List Int} {n : Int}, (∀ m ∈ ls, 1 ≤ m) → n ∈ ls → n ≤ ls.sum
  | m :: ls, n, h, hn => by
    have h0 : 0 ≤ ls.sum := sum_nn fun m hm => h m (List.mem_cons_of_mem _ hm)
    have h1 := h m List.mem_cons_self
    rw [List.sum_cons]
    rcases List.mem_cons.mp hn with rfl | hn
    · omega
    · have := mem_le_sum (fun m hm => h m (List.mem_cons_of_mem _ hm)) hn
      omega
where
  sum_nn : ∀ {ls : List Int}, (∀ m ∈ ls, 1 ≤ m) → 0 ≤ ls.sum
    | [], _ => by simp
    | m :: ls, h => by
      have h1 := h m List.mem_cons_self
      have := sum_nn (ls := ls) fun m hm => h m (List.mem_cons_of_mem _ hm)
      rw [List.sum_cons]; omega
theorem OkL.le {ls : List Int} (h : OkL ls) {n : Int} (hn : n ∈ ls) : 1 ≤ n ∧ n ≤ 60 := ⟨h.pos n hn, Int.le_trans (mem_le_sum h.pos hn) h.sum⟩
end LB
namespace LB
open PySem PySem.Spec PyProof.Rows L2 AV
/-- the length of the piece p -/
def lenAt (ls : List Int) (p : Int) : Int := (ls[p.toNat]?).getD 0
/-- where the j-th laid piece starts -/
def stAt (ls os : List Int) (j : Nat) : Int := ((os.take j).map (lenAt ls)).sum
def StOk (ls os : List Int) (kvs : List (Key × D)) : Prop := ∀ (j : Nat) (p : Int), os[j]? = some p → dv kvs (.inl p) = some (.int (stAt ls os j))
def spStarts : SpT := fun its R => ∃ ls os : List Int, its = [.d (tI ls), .d (tI os)] ∧ ls.length ≤ 6 ∧ OkO ls.length os ∧ ∀ kvs, StOk ls os kvs → R (.n (.k kvs)) [.d (tI ls), .d (tI os)]
/-- where the piece p starts in the laid line -/
def stOf (ls os : List Int) (p : Int) : Int := stAt ls os (os.idxOf p)
def goalF (ls os : List Int) : List Int := (ls.mapIdx fun i l => (rgI 0 l).map fun at' => stOf ls os i + at').flatten
def spGoals : SpT := fun its R => ∃ ls os : List Int, its = [.d (tI ls), .d (tI os)] ∧ OkL ls ∧ OkO ls.length os ∧ R (.d (tI (goalF ls os))) [.d (tI ls), .d (tI os)]
end LB
namespace LB
open PySem PySem.Spec PyProof.Rows L2 AV
theorem at_len {ls : List Int} {n : Int} (h0 : 0 ≤ n) (h1 : n < ls.length) : atI (ls.map D.int) n = some (.int (lenAt ls n)) := by
  obtain ⟨j, rfl⟩ : ∃ j : Nat, n = j := ⟨n.toNat, by omega⟩
  have hj : j < ls.length := by omega
  exact atI_nat (by simp [hj, lenAt])
theorem stAt_succ {ls os : List Int} {i : Nat} {n : Int} (h : os[i]? = some n) : stAt ls os (i + 1) = stAt ls os i + lenAt ls n := by
  unfold stAt
  rw [List.take_add_one, h]; simp
theorem map_get {ns : List Int} {i : Nat} {x : D} (h : (ns.map D.int)[i]? = some x) : ∃ n, ns[i]? = some n ∧ x = .int n := by
  rw [List.getElem?_map] at h
  cases q : ns[i]? with
  | none => rw [q] at h; cases h
  | some n => rw [q] at h; exact ⟨n, rfl, (Option.some.inj h).symm⟩
theorem nd_ne {ns : List Int} (h : ns.Nodup) {i j : Nat} {a b : Int} (hi : ns[i]? = some a) (hj : ns[j]? = some b) (ne : i ≠ j) : a ≠ b := by
  obtain ⟨hi1, hi2⟩ := List.getElem?_eq_some_iff.mp hi
  obtain ⟨hj1, hj2⟩ := List.getElem?_eq_some_iff.mp hj
  intro e
  rcases Nat.lt_or_gt_of_ne ne with q | q
  · exact List.pairwise_iff_getElem.mp h i j hi1 hj1 q (by rw [hi2, hj2, e])
  · exact List.pairwise_iff_getElem.mp h j i hj1 hi1 q (by rw [hi2, hj2, e])
end LB
namespace LB
open PySem PySem.Spec PyProof.Rows L2 AV
theorem nd_len : ∀ (k : Nat) (os : List Int), os.Nodup → (∀ n ∈ os, 0 ≤ n ∧ n < k) → os.length ≤ k
  | 0, os, _, h => by
    cases os with
    | nil => exact Nat.le_refl _
    | cons a os => have := h a List.mem_cons_self; omega
  | k + 1, os, hn, h => by
    have ih := nd_len k (os.erase (k : Nat)) (hn.erase _) fun n hm => by
      rw [List.Nodup.mem_erase_iff hn] at hm
      have := h n hm.2
      omega
    have := List.length_erase (l := os) (a := ((k : Nat) : Int))
    split at this <;> omega
theorem OkO.mem {k : Nat} {os : List Int} (h : OkO k os) {p : Int} (h0 : 0 ≤ p) (h1 : p < k) : p ∈ os := by
  by_cases hp : p ∈ os
  · exact hp
  · have := nd_len k (p :: os) (List.nodup_cons.mpr ⟨hp, h.nd⟩) fun n hn => by
      rcases List.mem_cons.mp hn with rfl | hn
      · exact ⟨h0, h1⟩
      · exact h.lo n hn
    have := h.len
    simp at *
    omega
theorem StOk.get {ls os : List Int} {kvs : List (Key × D)} (h : StOk ls os kvs) (ok : OkO ls.length os) {p : Int} (h0 : 0 ≤ p) (h1 : p < ls.length) : dv kvs (.inl p) = some (.int (stOf ls os p)) := by
  have hm := ok.mem h0 h1
  have hi : os.idxOf p < os.length := List.idxOf_lt_length_of_mem hm
  exact h (os.idxOf p) p (by rw [List.getElem?_eq_getElem hi, List.getElem_idxOf hi])
def gBlk (ls os : List Int) (i : Nat) (l : Int) : List Int := (rgI 0 l).map fun at' => stOf ls os i + at'
def gPre (ls os : List Int) (i : Nat) : List Int := ((ls.take i).mapIdx (gBlk ls os)).flatten
theorem gPre_succ {ls os : List Int} {i : Nat} {l : Int} (h : ls[i]? = some l) : gPre ls os (i + 1) = gPre ls os i ++ gBlk ls os i l := by
  unfold gPre
  have hi : i < ls.length := (List.getElem?_eq_some_iff.mp h).1
  rw [List.take_add_one, h, Option.toList_some, List.mapIdx_concat, List.flatten_concat, List.length_take, Nat.min_eq_left (by omega)]
theorem gPre_all (ls os : List Int) : gPre ls os ls.length = goalF ls os := by unfold gPre goalF; rw [List.take_length]; rfl
theorem take_sum_le : ∀ (ls : List Int) (i : Nat), (∀ n ∈ ls, 1 ≤ n) → (ls.take i).sum ≤ ls.sum
  | [], i, _ => by simp
  | l :: ls, 0, h => by
    have h1 := h l List.mem_cons_self
    have h2 := take_sum_le ls 0 fun n hn => h n (List.mem_cons_of_mem _ hn)
    simp at *; omega
  | l :: ls, i + 1, h => by
    have h2 := take_sum_le ls i fun n hn => h n (List.mem_cons_of_mem _ hn)
    simp only [List.take_succ_cons, List.sum_cons]; omega
theorem gPre_len : ∀ (ls os : List Int) (i : Nat), (∀ n ∈ ls, 1 ≤ n) → i ≤ ls.length → ((gPre ls os i).length : Int) = (ls.take i).sum
  | ls, os, 0, _, _ => by simp [gPre]
  | ls, os, i + 1, h, hi => by
    have ih := gPre_len ls os i h (by omega)
    have hg : ls[i]? = some ls[i] := List.getElem?_eq_getElem (by omega)
    rw [gPre_succ hg, List.length_append, List.take_add_one, hg, Option.toList_some, List.sum_append]
    have hl : ((gBlk ls os i ls[i]).length : Int) = ls[i] := by
      unfold gBlk; rw [List.length_map, rgI_length]
      have := h ls[i] (List.getElem_mem _)
      omega
    simp; omega
theorem enD_get {ls : List Int} {i : Nat} {x : D} (h : (enD (ls.map D.int))[i]? = some x) : ∃ l, ls[i]? = some l ∧ x = .tup [.int (i : Nat), .int l] := by
  unfold enD at h
  rw [List.getElem?_mapIdx, List.getElem?_map] at h
  cases q : ls[i]? with
  | none => rw [q] at h; cases h
  | some l => rw [q] at h; exact ⟨l, rfl, (Option.some.inj h).symm⟩
end LB
namespace LB
open PySem PySem.Spec PyProof.Rows L2 AV
theorem enD_len (ls : List Int) : (enD (ls.map D.int)).length = ls.length := by simp [enD]
end LB
namespace LB
open PySem PySem.Spec PyProof.Rows L2 AV
/-- the class Laying as the top has made it -/
structure LC (K : PySem.W.Frag) (CL : Addr) : Prop where
  ok : ClsOk K CL
  n1 : NoAttr K CL "lengths"
  n2 : NoAttr K CL "order"
  n3 : NoAttr K CL "many"
  n4 : NoAttr K CL "size"
  n5 : NoAttr K CL "goal"
def layF (ls os : List Int) : List (Str × D) := [("lengths", tI ls), ("order", tI os), ("many", .int (ls.length : Nat)), ("size", .int ls.sum), ("goal", tI (goalF ls os))]
def spInit (CL : Addr) : SpT := fun its R => ∃ ls os : List Int, its = [.o (.i CL []), .d (tI ls), .d (tI os)] ∧ OkL ls ∧ OkO ls.length os ∧ R (.d .non) [.o (.i CL (layF ls os)), .d (tI ls), .d (tI os)]
end LB
namespace LB
open PySem PySem.Spec PyProof.Rows L2 AV
abbrev lay (CL : Addr) (ls os : List Int) : D := .ins CL (layF ls os)
def spChk (CL : Addr) : SpT := fun its R => ∃ ls os : List Int, its = [.d (lay CL ls os)] ∧ R (.d .non) [.d (lay CL ls os)]
/-- the order that leads back -/
def backF (os : List Int) : List Int := (rgI 0 os.length).map fun p => (os.idxOf p : Nat)
def spBackO : SpT := fun its R => ∃ os : List Int, its = [.d (tI os)] ∧ os.length ≤ 6 ∧ OkO os.length os ∧ R (.d (tI (backF os))) [.d (tI os)]
/-- pieces turned, each in itself -/
def tBlk (s l : Int) : List Int := (rgI s (s + l)).map fun at' => 2 * s + l - 1 - at'
def turnGo : Int → List Int → List Int
  | _, [] => []
  | s, l :: ls => tBlk s l ++ turnGo (s + l) ls
def turnF (ls : List Int) : List Int := turnGo 0 ls
def lineF (n : Int) : List Int := (rgI 0 n).map fun at' => n - 1 - at'
def spLay1 (CL : Addr) (f : List Int → List Int → D) : SpT := fun its R => ∃ ls os : List Int, its = [.d (lay CL ls os)] ∧ OkL ls ∧ OkO ls.length os ∧ R (.d (f ls os)) [.d (lay CL ls os)]
/-- falling -/
def fallF (k : Nat) : List Int := (rgI 0 k).reverse
def spFall (CL : Addr) (f : List Int → D) : SpT := fun its R => ∃ ls : List Int, its = [.d (lay CL ls (fallF ls.length))] ∧ OkL ls ∧ R (.d (f ls)) [.d (lay CL ls (fallF ls.length))]
end LB
namespace LB
open PySem PySem.Spec PyProof.Rows L2 AV
theorem backF_of {os fl : List Int} (ok : OkO os.length os) (hl : fl.length = os.length) (h : ∀ (j : Nat) p, os[j]? = some p → fl[p.toNat]? = some (j : Int)) : fl = backF os := by
  apply List.ext_getElem?
  intro i
  unfold backF
  rw [List.getElem?_map]
  by_cases hi : i < os.length
  · rw [rgI_get (by omega)]
    have hm := ok.mem (p := (i : Nat)) (by omega) (by omega)
    have hx : os.idxOf (i : Int) < os.length := List.idxOf_lt_length_of_mem hm
    have := h (os.idxOf (i : Int)) i (by rw [List.getElem?_eq_getElem hx, List.getElem_idxOf hx])
    rw [Int.toNat_natCast] at this
    rw [this]; simp
  · rw [List.getElem?_eq_none (by omega), List.getElem?_eq_none (by rw [rgI_length]; omega)]; rfl
theorem turnGo_get : True := trivial
end LB
namespace LB
open PySem PySem.Spec PyProof.Rows L2 AV
theorem rgI_nodup (lo hi : Int) : (rgI lo hi).Nodup := by
  unfold rgI
  refine List.Pairwise.map _ (fun a b h => ?_) List.nodup_range
  omega
theorem OkO.perm {k : Nat} {os : List Int} (h : OkO k os) : os.Perm (rgI 0 k) :=
  (List.perm_ext_iff_of_nodup h.nd (rgI_nodup _ _)).mpr fun a => by
    rw [rgI_mem]
    exact ⟨fun m => h.lo a m, fun m => h.mem m.1 m.2⟩
theorem lens_all (ls : List Int) : (rgI 0 ls.length).map (lenAt ls) = ls := by
  apply List.ext_getElem?
  intro i
  rw [List.getElem?_map]
  by_cases hi : i < ls.length
  · rw [rgI_get (by omega), List.getElem?_eq_getElem hi]; simp [lenAt, hi]
  · rw [List.getElem?_eq_none (by rw [rgI_length]; omega), List.getElem?_eq_none (by omega)]; rfl
theorem OkO.lens {ls os : List Int} (h : OkO ls.length os) : (os.map (lenAt ls)).Perm ls := by
  have := h.perm.map (lenAt ls)
  rwa [lens_all] at this
theorem perm_sum {as bs : List Int} (p : as.Perm bs) : as.sum = bs.sum := by
  induction p with
  | nil => rfl
  | cons x _ ih => rw [List.sum_cons, List.sum_cons, ih]
  | swap x y l => simp only [List.sum_cons]; omega
  | trans _ _ i1 i2 => exact i1.trans i2
theorem nd_rev {as : List Int} (h : as.Nodup) : as.reverse.Nodup := (List.reverse_perm as).nodup_iff.mpr h
theorem OkL.perm {ls ms : List Int} (h : OkL ls) (p : ms.Perm ls) : OkL ms :=
  ⟨by rw [p.length_eq]; exact h.ne, by rw [p.length_eq]; exact h.len, fun n hn => h.pos n (p.mem_iff.mp hn), by rw [perm_sum p]; exact h.sum⟩
theorem OkO.back {k : Nat} {os : List Int} (h : OkO k os) : OkO k (backF os) := by
  have hl := h.len
  refine ⟨by unfold backF; rw [List.length_map, rgI_length]; omega, ?_, fun n hn => ?_⟩
  · unfold backF
    rw [List.Nodup, List.pairwise_map]
    refine (rgI_nodup 0 os.length).imp_of_mem fun {a b} ha hb ne e => ne ?_
    rw [rgI_mem] at ha hb
    have ma := h.mem ha.1 (by omega)
    have mb := h.mem hb.1 (by omega)
    have e' : os.idxOf a = os.idxOf b := by omega
    have h1 := List.getElem_idxOf (List.idxOf_lt_length_of_mem ma)
    have h2 := List.getElem_idxOf (List.idxOf_lt_length_of_mem mb)
    rw [← h1, ← h2]
    simp only [e']
  · unfold backF at hn
    obtain ⟨p, hp, rfl⟩ := List.mem_map.mp hn
    rw [rgI_mem] at hp
    have := List.idxOf_lt_length_of_mem (h.mem hp.1 (by omega))
    omega
def mirF (os : List Int) : List Int := os.reverse.map fun p => (os.length : Int) - 1 - p
theorem OkO.mir {k : Nat} {os : List Int} (h : OkO k os) : OkO k (mirF os) := by
  have hl := h.len
  refine ⟨by unfold mirF; simp [hl], ?_, fun n hn => ?_⟩
  · unfold mirF
    rw [List.Nodup, List.pairwise_map]
    have : os.reverse.Nodup := nd_rev h.nd
    exact this.imp fun {a b} ne e => ne (by omega)
  · unfold mirF at hn
    obtain ⟨p, hp, rfl⟩ := List.mem_map.mp hn
    have := h.lo p (List.mem_reverse.mp hp)
    omega
theorem OkO.fall (k : Nat) : OkO k (fallF k) := by
  refine ⟨by unfold fallF; simp [rgI_length], nd_rev (rgI_nodup _ _), fun n hn => ?_⟩
  unfold fallF at hn
  rw [List.mem_reverse, rgI_mem] at hn
  omega
theorem fall_len (k : Nat) : (fallF k).length = k := (OkO.fall k).len
end LB
namespace LB
open PySem PySem.Spec PyProof.Rows L2 AV
def spRawBack (CL : Addr) : SpT := fun its R => ∃ ls os : List Int, its = [.d (lay CL ls os)] ∧ OkL ls ∧ OkO ls.length os ∧ R (.n (.i CL (layF (os.map (lenAt ls)) (backF os)))) [.d (lay CL ls os)]
end LB
namespace LB
open PySem PySem.Spec PyProof.Rows L2 AV
theorem turnGo_snoc : ∀ (as : List Int) (s l : Int), turnGo s (as ++ [l]) = turnGo s as ++ tBlk (s + as.sum) l
  | [], s, l => by simp [turnGo]
  | a :: as, s, l => by
    show tBlk s a ++ turnGo (s + a) (as ++ [l]) = _
    rw [turnGo_snoc as (s + a) l, ← List.append_assoc, List.sum_cons, Int.add_assoc]; rfl
theorem tBlk_len (s l : Int) : (tBlk s l).length = l.toNat := by
  unfold tBlk; rw [List.length_map, rgI_length]; congr 1; omega
theorem turnGo_len : ∀ (as : List Int) (s : Int), (∀ n ∈ as, 1 ≤ n) → ((turnGo s as).length : Int) = as.sum
  | [], s, _ => by simp [turnGo]
  | a :: as, s, h => by
    have ih := turnGo_len as (s + a) fun n hn => h n (List.mem_cons_of_mem _ hn)
    have h1 := h a List.mem_cons_self
    show ((tBlk s a ++ turnGo (s + a) as).length : Int) = _
    rw [List.length_append, tBlk_len, List.sum_cons]; omega
theorem turnGo_mem : ∀ (as : List Int) (s : Int), (∀ n ∈ as, 1 ≤ n) → ∀ t ∈ turnGo s as, s ≤ t ∧ t < s + as.sum
  | [], s, _, t, ht => by simp [turnGo] at ht
  | a :: as, s, h, t, ht => by
    have h1 := h a List.mem_cons_self
    have hs := mem_le_sum.sum_nn (ls := as) fun n hn => h n (List.mem_cons_of_mem _ hn)
    rw [List.sum_cons]
    rcases List.mem_append.mp (show t ∈ tBlk s a ++ turnGo (s + a) as from ht) with ht | ht
    · unfold tBlk at ht
      obtain ⟨x, hx, rfl⟩ := List.mem_map.mp ht
      rw [rgI_mem] at hx
      omega
    · have := turnGo_mem as (s + a) (fun n hn => h n (List.mem_cons_of_mem _ hn)) t ht
      omega
theorem turnF_len {ls : List Int} (h : OkL ls) : ((turnF ls).length : Int) = ls.sum := turnGo_len ls 0 h.pos
theorem turnF_mem {ls : List Int} (h : OkL ls) {t : Int} (ht : t ∈ turnF ls) : 0 ≤ t ∧ t < ls.sum := by
  have := turnGo_mem ls 0 h.pos t ht; omega
theorem lineF_len (n : Int) : (lineF n).length = n.toNat := by unfold lineF; rw [List.length_map, rgI_length]; congr 1; omega
theorem lineF_get {n t : Int} (h0 : 0 ≤ t) (h1 : t < n) : (lineF n)[t.toNat]? = some (n - 1 - t) := by
  unfold lineF
  rw [List.getElem?_map, rgI_get (by omega), Option.map_some]; congr 1; omega
theorem at_get {ns : List Int} {t x : Int} (h0 : 0 ≤ t) (h : ns[t.toNat]? = some x) : atI (ns.map D.int) t = some (.int x) := by
  obtain ⟨j, rfl⟩ : ∃ j : Nat, t = j := ⟨t.toNat, by omega⟩
  rw [Int.toNat_natCast] at h
  exact atI_nat (by rw [List.getElem?_map, h]; rfl)
def spMir (CL : Addr) : SpT := fun its R => ∃ ls os : List Int, its = [.d (lay CL ls os)] ∧ OkL ls ∧ OkO ls.length os ∧ R (.n (.i CL (layF ls.reverse (mirF os)))) [.d (lay CL ls os)]
def fixF (gs : List Int) : List Int := ((gs.mapIdx fun i g => ((i : Int), g)).filter fun p => decide (p.2 = p.1)).map (·.1)
theorem enD_pairs (gs : List Int) : enD (gs.map D.int) = (gs.mapIdx fun i g => ((i : Int), g)).map fun p => D.tup [.int p.1, .int p.2] := by
  unfold enD
  apply List.ext_getElem?
  intro i
  simp [List.getElem?_mapIdx]
  cases gs[i]? <;> rfl
end LB
namespace LB
open PySem PySem.Spec PyProof.Rows L2 AV
def spHand : SpT := fun its R => ∃ ns : List Int, its = [.d (.scr ns)] ∧ ∀ (cs : List Int) (r : Int), R (.n (.l (hD cs 0 0 r 0))) [.d (.scr ns)]
def spSome : SpT := fun its R => ∃ (cs : List Int) (p q r u : Int) (xs : List D), its = [.o (.l (hD cs p q r u)), .d (.lst xs)] ∧ 0 ≤ p ∧ xs ≠ [] ∧ xs.length ≤ 1000 ∧
  ∀ (x : D) (cs : List Int) (p q r u : Int), x ∈ xs → 0 ≤ p → R (.d x) [.o (.l (hD cs p q r u)), .d (.lst xs)]
end LB
namespace LB
open PySem PySem.Spec PyProof.Rows L2 AV
theorem at_any {xs : List D} {d : Int} (h0 : 0 ≤ d) (h1 : d < xs.length) : ∃ x, atI xs d = some x ∧ x ∈ xs := by
  obtain ⟨j, rfl⟩ : ∃ j : Nat, d = j := ⟨d.toNat, by omega⟩
  have hj : j < xs.length := by omega
  exact ⟨xs[j], atI_nat (by simp [hj]), List.getElem_mem _⟩
end LB
namespace LB
open PySem PySem.Spec PyProof.Rows L2 AV
theorem tBlk_alt (s l : Int) : (rgI 0 l).map (fun t => s + l - 1 - t) = tBlk s l := by
  unfold tBlk rgI
  rw [List.map_map, List.map_map, show (s + l - s).toNat = (l - 0).toNat by congr 1; omega]
  apply List.map_congr_left
  intro i _
  simp only [Function.comp]
  omega
def spLGoal : SpT := fun its R => ∃ ls os : List Int, its = [.d (tI ls), .d (tI os)] ∧ OkL ls ∧ OkO ls.length os ∧ R (.n (.l ((goalF ls os).map D.int))) [.d (tI ls), .d (tI os)]
def spLTurn : SpT := fun its R => ∃ ls : List Int, its = [.d (tI ls)] ∧ OkL ls ∧ R (.n (.l ((turnF ls).map D.int))) [.d (tI ls)]
theorem rg_get {n : Int} {i : Nat} {x : D} (h : (rgD n)[i]? = some x) : x = .int (i : Nat) ∧ (i : Int) < n := by
  rw [rgD_I] at h
  obtain ⟨m, hm, rfl⟩ := map_get h
  have hi : i < (rgI 0 n).length := (List.getElem?_eq_some_iff.mp hm).1
  rw [rgI_length] at hi
  rw [rgI_get hi] at hm
  have := Option.some.inj hm
  exact ⟨by rw [← this]; simp, by omega⟩
theorem lenAt_get {ls : List Int} {i : Nat} {l : Int} (h : ls[i]? = some l) : lenAt ls (i : Nat) = l := by simp [lenAt, h]
end LB
namespace LB
open PySem PySem.Spec PyProof.Rows L2 AV
theorem erase_perm {α : Type} : ∀ {l : List α} {j : Nat} {x : α}, l[j]? = some x → (x :: l.eraseIdx j).Perm l
  | a :: l, 0, x, h => by cases h; exact List.Perm.refl _
  | a :: l, j + 1, x, h => by
    have ih := erase_perm (l := l) (j := j) (x := x) (by simpa using h)
    rw [List.eraseIdx_cons_succ]
    exact (List.Perm.swap a x _).trans (ih.cons a)
theorem OkO.ofPerm {k : Nat} {os : List Int} (h : os.Perm (rgI 0 k)) : OkO k os :=
  ⟨by rw [h.length_eq, rgI_length]; omega, h.nodup_iff.mpr (rgI_nodup _ _), fun n hn => rgI_mem.mp (h.mem_iff.mp hn)⟩
theorem cut_to (ns : List Int) (c : Nat) : AV.cutD (ns.map D.int) none (some (c : Int)) = (ns.take c).map D.int := by
  unfold AV.cutD
  rw [HT.sIx_none, HT.sIx_nat]
  simp only [List.drop_zero, Nat.sub_zero, List.length_map]
  rw [← List.map_take]
  congr 1
  rw [List.take_eq_take_iff]
  omega
theorem cut_from (ns : List Int) (c : Nat) : AV.cutD (ns.map D.int) (some (c : Int)) none = (ns.drop c).map D.int := by
  unfold AV.cutD
  rw [HT.sIx_none, HT.sIx_nat]
  simp only [List.length_map]
  rw [← List.map_drop, ← List.map_take]
  congr 1
  by_cases h : c ≤ ns.length
  · rw [Nat.min_eq_left h, List.take_of_length_le (by simp)]
  · rw [Nat.min_eq_right (by omega), Nat.sub_self, List.take_zero, List.drop_of_length_le (by omega)]
def spOrder : SpT := fun its R => ∃ (cs : List Int) (p q r u : Int) (k : Nat), its = [.o (.l (hD cs p q r u)), .d (.int (k : Nat))] ∧ 0 ≤ p ∧ 1 ≤ k ∧ k ≤ 6 ∧
  ∀ (os cs : List Int) (p q r u : Int), OkO k os → 0 ≤ p → R (.d (tI os)) [.o (.l (hD cs p q r u)), .d (.int (k : Nat))]
end LB
namespace LB
theorem map_erase {α β : Type} (f : α → β) : ∀ (l : List α) (j : Nat), (l.eraseIdx j).map f = (l.map f).eraseIdx j
  | [], _ => rfl
  | _ :: _, 0 => rfl
  | a :: l, j + 1 => by rw [List.eraseIdx_cons_succ, List.map_cons, List.map_cons, List.eraseIdx_cons_succ, map_erase f l j]
end LB
namespace LB
open PySem PySem.Spec PyProof.Rows L2 AV
def spParts : SpT := fun its R => ∃ (cs : List Int) (p q r u most : Int), its = [.o (.l (hD cs p q r u)), .d (.int most), .d (.int 6)] ∧ 0 ≤ p ∧ 6 ≤ most ∧ most ≤ 60 ∧
  ∀ (ls os cs : List Int) (p q r u : Int), OkL ls → OkO ls.length os → 0 ≤ p → R (.d (.tup [tI ls, tI os])) [.o (.l (hD cs p q r u)), .d (.int most), .d (.int 6)]
theorem sum_ge_len : ∀ {ns : List Int}, (∀ n ∈ ns, 1 ≤ n) → (ns.length : Int) ≤ ns.sum
  | [], _ => by simp
  | n :: ns, h => by
    have ih := sum_ge_len (ns := ns) fun m hm => h m (List.mem_cons_of_mem _ hm)
    have h1 := h n List.mem_cons_self
    rw [List.length_cons, List.sum_cons]; omega
theorem sum_le_mul : ∀ {ns : List Int} {b : Int}, (∀ n ∈ ns, n ≤ b) → ns.sum ≤ ns.length * b
  | [], b, _ => by simp
  | n :: ns, b, h => by
    have ih := sum_le_mul (ns := ns) (b := b) fun m hm => h m (List.mem_cons_of_mem _ hm)
    have h1 := h n List.mem_cons_self
    rw [List.length_cons, List.sum_cons]
    have : ((ns.length + 1 : Nat) : Int) * b = ns.length * b + b := by rw [Int.natCast_add, Int.add_mul]; simp
    omega
theorem sum_setL : ∀ {ns : List Int} {j : Nat} {x y : Int}, ns[j]? = some x → (ns.set j y).sum = ns.sum - x + y
  | n :: ns, 0, x, y, h => by cases h; simp only [List.set_cons_zero, List.sum_cons]; omega
  | n :: ns, j + 1, x, y, h => by
    have ih := sum_setL (ns := ns) (j := j) (x := x) (y := y) (by simpa using h)
    simp only [List.set_cons_succ, List.sum_cons, ih]; omega
end LB
namespace LB
open PySem PySem.Spec PyProof.Rows L2 AV
theorem room65 {k : Nat} {A : Around} (r : Room k A) : A.units + 65 < cLine := by have := r.un; omega
end LB
namespace LB
open PySem PySem.Spec PyProof.Rows L2 AV
def spLens : SpT := fun its R => ∃ (cs : List Int) (p q r u : Int), its = [.o (.l (hD cs p q r u))] ∧ 0 ≤ p ∧ ∀ (ls cs : List Int) (p q r u : Int), OkL ls → 0 ≤ p → R (.d (tI ls)) [.o (.l (hD cs p q r u))]
theorem sum_map_le {f : Int → Int} : ∀ {ls : List Int}, (∀ n ∈ ls, f n ≤ n) → (ls.map f).sum ≤ ls.sum
  | [], _ => by simp
  | n :: ls, h => by
    have ih := sum_map_le (f := f) (ls := ls) fun m hm => h m (List.mem_cons_of_mem _ hm)
    have h1 := h n List.mem_cons_self
    simp only [List.map_cons, List.sum_cons]; omega
theorem OkL.map {ls : List Int} (h : OkL ls) {f : Int → Int} (h1 : ∀ n ∈ ls, 1 ≤ f n) (hs : (ls.map f).sum ≤ 60) : OkL (ls.map f) :=
  ⟨by rw [List.length_map]; exact h.ne, by rw [List.length_map]; exact h.len, fun n hn => by obtain ⟨m, hm, rfl⟩ := List.mem_map.mp hn; exact h1 m hm, hs⟩
theorem OkL.twos {k : Nat} (h1 : 1 ≤ k) (h6 : k ≤ 6) : OkL (List.replicate k 2) :=
  ⟨by simpa using h1, by simpa using h6, fun n hn => by rw [List.eq_of_mem_replicate hn]; omega, by
    have : ∀ k : Nat, (List.replicate k (2 : Int)).sum = 2 * k := fun k => by
      induction k with
      | zero => rfl
      | succ k ih => rw [List.replicate_succ, List.sum_cons, ih]; omega
    rw [this]; omega⟩
end LB
namespace LB
open PySem PySem.Spec PyProof.Rows L2 AV
section
variable {X : Cx} {pa : Pin} {e : Expr} {Γ : Gm} {Q : Rs → Gm → Prop} {T : En} {XR : Value → Gm → Prop} {st : Stmt} {sts : List Stmt}
theorem g_vbx (h : VBx X pa sts Γ T XR) : VBx X pa sts Γ T XR := h
theorem g_vsx (h : VSx X pa st Γ T XR) : VSx X pa st Γ T XR := h
theorem g_vex (h : VEx X pa e Γ Q XR) : VEx X pa e Γ Q XR := h
theorem g_raise {x : Str} {p p2 pos : Pos} (h : VSx X pa (.Raise (some (.Call (.Name x p) [] [] p2)) none pos) Γ T XR) : VSx X pa (.Raise (some (.Call (.Name x p) [] [] p2)) none pos) Γ T XR := h
theorem g_ifx {c : Expr} {u v : List Stmt} {pos : Pos} (h : VSx X pa (.If c u v pos) Γ T XR) : VSx X pa (.If c u v pos) Γ T XR := h
theorem g_exprx {pos : Pos} (h : VSx X pa (.Expr e pos) Γ T XR) : VSx X pa (.Expr e pos) Γ T XR := h
theorem g_pcx {sp : SpXT} {rs : List Rs} (h : PCallX sp Q XR rs Γ) : PCallX sp Q XR rs Γ := h
theorem pcx1 {sp : SpXT} {x : D} (h : sp [.d x] (fun r _ => Q r Γ) fun c => XR c Γ) : PCallX sp Q XR [.d x] Γ := ⟨rfl, fun r hr => ⟨x, by simpa using hr⟩, h⟩
theorem pcx2 {sp : SpXT} {x y : D} (h : sp [.d x, .d y] (fun r _ => Q r Γ) fun c => XR c Γ) : PCallX sp Q XR [.d x, .d y] Γ := ⟨rfl, fun r hr => by
  rcases List.mem_cons.mp hr with rfl | hr
  · exact ⟨_, rfl⟩
  · exact ⟨y, by simpa using hr⟩, h⟩
theorem pcx3 {sp : SpXT} {x y z : D} (h : sp [.d x, .d y, .d z] (fun r _ => Q r Γ) fun c => XR c Γ) : PCallX sp Q XR [.d x, .d y, .d z] Γ := ⟨rfl, fun r hr => by
  rcases List.mem_cons.mp hr with rfl | hr
  · exact ⟨_, rfl⟩
  · rcases List.mem_cons.mp hr with rfl | hr
    · exact ⟨_, rfl⟩
    · exact ⟨z, by simpa using hr⟩, h⟩
end
end LB
namespace LB
open PySem PySem.Spec PyProof.Rows L2 AV
/-! ## refusals -/
/-- what an own error class of the text is: made without a text, an error, asked by isinstance -/
structure EC (K : PySem.W.Frag) (mg : Str → Option Value) (x : Str) (C : Addr) : Prop where
  k : ExK K C
  g : mg x = some (.ref C)
  i : ExcC K C
/-- the class that except names takes it -/
def Tk (K : PySem.W.Frag) (C S : Addr) : Prop := PySem.W.exmOne K (.ref C) (.ref S) = some true
/-- isinstance of an error of the class C against D -/
def IsK (K : PySem.W.Frag) (C D : Addr) (b : Bool) : Prop := PySem.W.kitOne K (.ref C) (.ref D) = some b
/-- a value of a builtin kind that is no instance of CL -/
def NoIns (K : PySem.W.Frag) (CL : Addr) (x : D) : Prop := ∃ n, x.tyN = some n ∧ PySem.W.kitOne K (.type n) (.ref CL) = some false
/-- refused: its only argument is no instance of CL -/
def spNoI (CL EC : Addr) (K : PySem.W.Frag) : SpXT := fun its _ XR => ∃ x : D, its = [.d x] ∧ NoIns K CL x ∧ XR (.ref EC)
/-- refused: the first of two is no instance of CL -/
def spNoI2 (CL EC : Addr) (K : PySem.W.Frag) : SpXT := fun its _ XR => ∃ x y : D, its = [.d x, .d y] ∧ NoIns K CL x ∧ XR (.ref EC)
end LB
namespace LB
open PySem PySem.Spec PyProof.Rows L2 AV
/-- an error of the i-th of these classes is told as i -/
def xiL (cs : List Addr) : Value → Int → Prop := fun cl e => ∃ (i : Nat) (C : Addr), cs[i]? = some C ∧ cl = .ref C ∧ e = i
end LB
namespace LB
open PySem PySem.Spec PyProof.Rows L2 AV
section
variable {Γ : Gm} {r : Rs} {rs : List Rs} {Q : Rs → Gm → Prop}
theorem g_tls (h : TLs r Γ) : TLs r Γ := h
theorem g_rcnt (h : RCount Q r rs Γ) : RCount Q r rs Γ := h
theorem fit_bls (bs : List Bool) : (D.lst (bs.map D.bl)).fit = true := by
  have h1 : ∀ bs : List Bool, D.pls (bs.map D.bl) = true := fun bs => by
    induction bs with
    | nil => rfl
    | cons b bs ih => simp [D.pls, D.pl, ih]
  have h2 : ∀ bs : List Bool, D.pys (bs.map D.bl) = bs.map PyData.bool := fun bs => by
    induction bs with
    | nil => rfl
    | cons b bs ih => simp [D.pys, D.py, ih]
  have h3 : ∀ bs : List Bool, PyData.canLayAll0 (bs.map PyData.bool) = true := fun bs => by
    induction bs with
    | nil => rfl
    | cons b bs ih => simp [PyData.canLayAll0, PyData.canLay0, ih]
  have h4 : ∀ bs : List Bool, PyData.depthAll (bs.map PyData.bool) ≤ 1 := fun bs => by
    induction bs with
    | nil => simp [PyData.depthAll]
    | cons b bs ih => simp [PyData.depthAll, PyData.depth]; omega
  have := h4 bs
  simp [D.fit, D.pl, D.py, h1, h2, SeqAt.shaped, PyData.canLay0, h3, PyData.depth]
  omega
/-- flags.count(True) -/
theorem rcntB {bs : List Bool} (h : rd Γ r = some (.lst (bs.map D.bl))) (q : Q (.d (.int (bs.countP id : Nat))) Γ) : RCount Q r [.d (.bl true)] Γ := by
  refine ⟨_, .d (.bl true), .bl true, rfl, h, rfl, fit_bls bs, by simp [D.fit, D.pl, D.py, SeqAt.shaped, PyData.canLay0, PyData.depth], ?_⟩
  have e : (bs.map D.bl).countP (fun z => PyData.eqv z.py (D.bl true).py) = bs.countP id := by
    rw [List.countP_map]
    congr 1
    funext b
    cases b <;> simp [D.py, PyData.eqv]
  rw [e]; exact q
/-- flags.index(True) -/
theorem rixB {bs : List Bool} {j : Nat} (h : rd Γ r = some (.lst (bs.map D.bl))) (hj : bs[j]? = some true) (hn : ∀ m, m < j → bs[m]? = some false) (q : Q (.d (.int (j : Nat))) Γ) : RIndex Q r [.d (.bl true)] Γ := by
  refine ⟨_, .d (.bl true), .bl true, j, rfl, h, rfl, fit_bls bs, by simp [D.fit, D.pl, D.py, SeqAt.shaped, PyData.canLay0, PyData.depth], ⟨.bl true, by rw [List.getElem?_map, hj]; rfl, by simp [D.py, PyData.eqv]⟩, fun m z' hm hz => ?_, q⟩
  rw [List.getElem?_map, hn m hm] at hz
  cases hz
  simp [D.py, PyData.eqv]
end
end LB
namespace LB
open PySem PySem.Spec PyProof.Rows L2 AV
/-- a row of so many small ints -/
structure OkRow (n : Int) (row : List Int) : Prop where
  len : (row.length : Int) = n
  small : ∀ x ∈ row, -1000000000 < x ∧ x < 1000000000
def spChkRow (CL : Addr) : SpT := fun its R => ∃ ls os row : List Int, its = [.d (lay CL ls os), .d (tI row)] ∧ OkL ls ∧ OkRow ls.sum row ∧ R (.d .non) [.d (lay CL ls os), .d (tI row)]
end LB
namespace LB
open PySem PySem.Spec PyProof.Rows L2 AV
/-- what is no row of n: no tuple; of another length; its first item no integer, or too great -/
def BadRow (n : Int) (y : D) : Prop := (∃ nm, y.tyN = some nm ∧ kitB nm "tuple" = some false) ∨ (∃ ds, y = .tup ds ∧ (ds.length : Int) ≠ n) ∨
  (∃ (d : D) (row : List Int), y = .tup (d :: row.map D.int) ∧ (row.length : Int) + 1 = n ∧ (isIntD d = some false ∨ ∃ i, d = .int i ∧ 1000000000 ≤ i) ∧ ∀ x ∈ row, -1000000000 < x ∧ x < 1000000000)
def spRowX (CL EL ER : Addr) (K : PySem.W.Frag) : SpXT := fun its _ XR => (∃ x y : D, its = [.d x, .d y] ∧ NoIns K CL x ∧ XR (.ref EL)) ∨
  (∃ (ls os : List Int) (y : D), its = [.d (lay CL ls os), .d y] ∧ OkL ls ∧ BadRow ls.sum y ∧ XR (.ref ER))
end LB
namespace LB
open PySem PySem.Spec PyProof.Rows L2 AV
def rowG (M : Int) : D → Bool
  | .int i => decide ((i.natAbs : Int) < M)
  | _ => false
theorem rowG_no {M : Int} {d : D} (h : isIntD d = some false) : rowG M d = false := by cases d <;> first | rfl | cases h
end LB
set_option Elab.async false
set_option linter.all false
set_option maxRecDepth 100000
set_option maxHeartbeats 4000000
namespace K80
open PySem PySem.Spec PyProof.Rows L2 AV LB
def topS (i : Nat) : Stmt := PySem.Challenge.pw_stripturns_k80_whole_bounds_of_sums_alon.main.body.getD i (.Pass ⟨0, 0, 0, 0⟩)
theorem sc_BadLaying___init__ : FnScope ["self", "part"] ["self", "part"] (defScope (inClass (topS 2) 0)) := ⟨rfl, rfl, rfl, by decide +kernel, rfl, by decide +kernel, by decide +kernel⟩
theorem sc_is_integer : FnScope ["thing"] ["thing"] (defScope (topS 8)) := ⟨rfl, rfl, rfl, by decide +kernel, rfl, by decide +kernel, by decide +kernel⟩
theorem sc_is_within : FnScope ["thing", "low", "high"] ["thing", "low", "high"] (defScope (topS 9)) := ⟨rfl, rfl, rfl, by decide +kernel, rfl, by decide +kernel, by decide +kernel⟩
theorem sc_are_lengths : FnScope ["thing", "one"] ["thing"] (defScope (topS 10)) := ⟨rfl, rfl, rfl, by decide +kernel, rfl, by decide +kernel, by decide +kernel⟩
theorem sc_is_order : FnScope ["thing", "one"] ["thing"] (defScope (topS 11)) := ⟨rfl, rfl, rfl, by decide +kernel, rfl, by decide +kernel, by decide +kernel⟩
theorem sc_starts_of : FnScope ["lengths", "order", "piece", "found", "here"] ["lengths", "order"] (defScope (topS 12)) := ⟨rfl, rfl, rfl, by decide +kernel, rfl, by decide +kernel, by decide +kernel⟩
theorem sc_goals_of : FnScope ["lengths", "order", "laid", "found", "piece", "length", "at"] ["lengths", "order"] (defScope (topS 13)) := ⟨rfl, rfl, rfl, by decide +kernel, rfl, by decide +kernel, by decide +kernel⟩
theorem sc_Laying___init__ : FnScope ["self", "lengths", "order"] ["self", "lengths", "order"] (defScope (inClass (topS 14) 0)) := ⟨rfl, rfl, rfl, by decide +kernel, rfl, by decide +kernel, by decide +kernel⟩
theorem sc_check_laying : FnScope ["thing"] ["thing"] (defScope (topS 15)) := ⟨rfl, rfl, rfl, by decide +kernel, rfl, by decide +kernel, by decide +kernel⟩
theorem sc_check_row : FnScope ["laying", "row", "one"] ["laying", "row"] (defScope (topS 18)) := ⟨rfl, rfl, rfl, by decide +kernel, rfl, by decide +kernel, by decide +kernel⟩
theorem sc_row_bounds : FnScope ["laying", "row", "place", "least", "most", "turn", "total", "here"] ["laying", "row"] (defScope (topS 20)) := ⟨rfl, rfl, rfl, by decide +kernel, rfl, by decide +kernel, by decide +kernel⟩
theorem sc_shift_row : FnScope ["laying", "place", "goal"] ["laying"] (defScope (topS 21)) := ⟨rfl, rfl, rfl, by decide +kernel, rfl, by decide +kernel, by decide +kernel⟩
theorem sc__law_hand : FnScope ["script", "cells", "cell"] ["script"] (defScope (topS 23)) := ⟨rfl, rfl, rfl, by decide +kernel, rfl, by decide +kernel, by decide +kernel⟩
theorem sc__law_draw : FnScope ["hand", "many", "number", "cell", "digit"] ["hand", "many"] (defScope (topS 24)) := ⟨rfl, rfl, rfl, by decide +kernel, rfl, by decide +kernel, by decide +kernel⟩
theorem sc__law_some : FnScope ["hand", "things"] ["hand", "things"] (defScope (topS 25)) := ⟨rfl, rfl, rfl, by decide +kernel, rfl, by decide +kernel, by decide +kernel⟩
theorem sc__law_errors : FnScope ["calls", "found", "call", "word", "error", "flags"] ["calls"] (defScope (topS 26)) := ⟨rfl, rfl, rfl, by decide +kernel, rfl, by decide +kernel, by decide +kernel⟩
theorem sc__law_goal : FnScope ["lengths", "order", "length", "at", "piece", "goal", "begins", "laid", "step"] ["lengths", "order"] (defScope (topS 27)) := ⟨rfl, rfl, rfl, by decide +kernel, rfl, by decide +kernel, by decide +kernel⟩
theorem sc__law_order : FnScope ["hand", "many", "way", "left", "found", "cut"] ["hand", "many"] (defScope (topS 28)) := ⟨rfl, rfl, rfl, by decide +kernel, rfl, by decide +kernel, by decide +kernel⟩
theorem sc__law_parts : FnScope ["hand", "most", "pieces", "many", "room", "lengths", "at", "piece"] ["hand", "most", "pieces"] (defScope (topS 29)) := ⟨rfl, rfl, rfl, by decide +kernel, rfl, by decide +kernel, by decide +kernel⟩
theorem sc__law_row : FnScope ["hand", "goal", "some", "size", "way", "at", "place"] ["hand", "goal"] (defScope (topS 30)) := ⟨rfl, rfl, rfl, by decide +kernel, rfl, by decide +kernel, by decide +kernel⟩
theorem sc__law_bounds : FnScope ["goal", "row", "place", "least", "most", "turn", "here", "total"] ["goal", "row"] (defScope (topS 31)) := ⟨rfl, rfl, rfl, by decide +kernel, rfl, by decide +kernel, by decide +kernel⟩
theorem sc_law : FnScope ["script", "hand", "lap", "size", "row", "up", "told", "none", "odd", "calls", "lengths", "order", "laying", "goal", "place"] ["script"] (defScope (topS 32)) := ⟨rfl, rfl, rfl, by decide +kernel, rfl, by decide +kernel, by decide +kernel⟩
end K80
set_option linter.all false
set_option maxRecDepth 100000
set_option maxHeartbeats 1000000
namespace LB
open PySem PySem.Spec PyProof.Rows L2 AV
/-- what stands at a place -/
def atF (gs : List Int) (x : Int) : Int := (gs[x.toNat]?).getD 0
theorem atF_get {gs : List Int} {x : Int} (h0 : 0 ≤ x) (h1 : x < gs.length) : gs[x.toNat]? = some (atF gs x) := by
  have h : x.toNat < gs.length := by omega
  simp [atF, h]
theorem at_F {gs : List Int} {x : Int} (h0 : 0 ≤ x) (h1 : x < gs.length) : atI (gs.map D.int) x = some (.int (atF gs x)) := at_get h0 (atF_get h0 h1)
theorem atF_mem {gs : List Int} {x : Int} (h0 : 0 ≤ x) (h1 : x < gs.length) : atF gs x ∈ gs := List.mem_of_getElem? (atF_get h0 h1)
theorem atF_nat {gs : List Int} {i : Nat} {g : Int} (h : gs[i]? = some g) : atF gs (i : Int) = g := by simp [atF, h]
/-- a place's goal is a place -/
structure OkG (gs : List Int) (n : Int) : Prop where
  len : (gs.length : Int) = n
  lt : ∀ g ∈ gs, 0 ≤ g ∧ g < n
theorem stAt_le {ls os : List Int} (okl : OkL ls) (ok : OkO ls.length os) {j : Nat} {p : Int} (h : os[j]? = some p) : 0 ≤ stAt ls os j ∧ stAt ls os j + lenAt ls p ≤ ls.sum := by
  have hs := stAt_succ (ls := ls) h
  have hp : (os.map (lenAt ls)).sum = ls.sum := perm_sum ok.lens
  have hnn : ∀ n ∈ os.map (lenAt ls), 1 ≤ n := fun n hn => okl.pos n (ok.lens.mem_iff.mp hn)
  have h1 : (os.take (j + 1)).map (lenAt ls) = (os.map (lenAt ls)).take (j + 1) := List.map_take
  have h2 := take_sum_le (os.map (lenAt ls)) (j + 1) hnn
  have h3 : (os.take j).map (lenAt ls) = (os.map (lenAt ls)).take j := List.map_take
  have h4 : 0 ≤ ((os.map (lenAt ls)).take j).sum := mem_le_sum.sum_nn fun n hn => hnn n (List.mem_of_mem_take hn)
  have e1 : stAt ls os j = ((os.map (lenAt ls)).take j).sum := by unfold stAt; rw [h3]
  have e2 : stAt ls os (j + 1) = ((os.map (lenAt ls)).take (j + 1)).sum := by unfold stAt; rw [h1]
  constructor <;> omega
theorem goalF_ok {ls os : List Int} (okl : OkL ls) (ok : OkO ls.length os) : OkG (goalF ls os) ls.sum := by
  refine ⟨?_, fun g hg => ?_⟩
  · rw [← gPre_all, gPre_len ls os _ okl.pos (Nat.le_refl _), List.take_length]
  · unfold goalF at hg
    obtain ⟨l, hl, hg⟩ := List.mem_flatten.mp hg
    obtain ⟨i, hi, rfl⟩ := List.mem_mapIdx.mp hl
    obtain ⟨a, ha, rfl⟩ := List.mem_map.mp hg
    rw [rgI_mem] at ha
    have hm := ok.mem (p := (i : Nat)) (by omega) (by omega)
    have hx : os.idxOf (i : Int) < os.length := List.idxOf_lt_length_of_mem hm
    have := stAt_le okl ok (j := os.idxOf (i : Int)) (p := (i : Nat)) (by rw [List.getElem?_eq_getElem hx, List.getElem_idxOf hx])
    have hle : lenAt ls (i : Nat) = ls[i] := by simp [lenAt, hi]
    unfold stOf
    omega
end LB
namespace K80
open PySem PySem.Spec PyProof.Rows L2 AV LB
structure B4 where
  le : Int
  mo : Int
  to : Int
  he : Int
def stB (gs row : List Int) (s : B4) : B4 := ⟨min s.le (s.to + atF row s.he), max s.mo (s.to + atF row s.he), s.to + atF row s.he, atF gs s.he⟩
def inB (gs row : List Int) : Nat → B4 → B4
  | 0, s => s
  | n + 1, s => stB gs row (inB gs row n s)
def outB (gs row : List Int) (k : Nat) : Nat → B4
  | 0 => ⟨0, 0, 0, 0⟩
  | n + 1 => inB gs row k ⟨(outB gs row k n).le, (outB gs row k n).mo, 0, (n : Nat)⟩
def bndF (gs row : List Int) : D := .tup [.int (outB gs row gs.length gs.length).le, .int (outB gs row gs.length gs.length).mo]
theorem inB_he {gs row : List Int} {n : Int} (ok : OkG gs n) {s : B4} (h : 0 ≤ s.he ∧ s.he < n) : ∀ t, 0 ≤ (inB gs row t s).he ∧ (inB gs row t s).he < n
  | 0 => h
  | t + 1 => by
    have ih := inB_he (row := row) ok h t
    have hl := ok.len
    exact ok.lt _ (atF_mem ih.1 (by omega))
def upF (gs : List Int) : List Int := gs.mapIdx fun i g => g - (i : Nat)
theorem upF_len (gs : List Int) : (upF gs).length = gs.length := by simp [upF]
theorem upF_at {gs : List Int} {x : Int} (h0 : 0 ≤ x) (h1 : x < gs.length) : atF (upF gs) x = atF gs x - x := by
  have h : x.toNat < gs.length := by omega
  unfold atF upF
  rw [List.getElem?_mapIdx, List.getElem?_eq_getElem h]
  simp
  omega
theorem upF_row {gs : List Int} {n : Int} (ok : OkG gs n) (hn : n ≤ 60) : OkRow n (upF gs) := by
  have hl := ok.len
  refine ⟨by rw [upF_len]; exact hl, fun x hx => ?_⟩
  unfold upF at hx
  obtain ⟨i, hi, rfl⟩ := List.mem_mapIdx.mp hx
  have := ok.lt gs[i] (List.getElem_mem _)
  omega
theorem in_up {gs : List Int} {n : Int} (ok : OkG gs n) {p : Int} (hp : 0 ≤ p ∧ p < n) {le mo : Int} (hl : -n < le) (hm : mo < n) : ∀ t, (inB gs (upF gs) t ⟨le, mo, 0, p⟩).to = (inB gs (upF gs) t ⟨le, mo, 0, p⟩).he - p ∧ -n < (inB gs (upF gs) t ⟨le, mo, 0, p⟩).le ∧ (inB gs (upF gs) t ⟨le, mo, 0, p⟩).mo < n
  | 0 => ⟨by show (0 : Int) = p - p; omega, hl, hm⟩
  | t + 1 => by
    obtain ⟨h1, h2, h3⟩ := in_up ok hp hl hm t
    have hh := inB_he (row := upF gs) ok (s := ⟨le, mo, 0, p⟩) hp t
    have hg := inB_he (row := upF gs) ok (s := ⟨le, mo, 0, p⟩) hp (t + 1)
    have hlen := ok.len
    have hu := upF_at (gs := gs) hh.1 (by omega)
    unfold inB at hg ⊢
    generalize inB gs (upF gs) t ⟨le, mo, 0, p⟩ = s at *
    have e : (stB gs (upF gs) s).he = atF gs s.he := rfl
    rw [e] at hg
    refine ⟨?_, ?_, ?_⟩
    · show s.to + atF (upF gs) s.he = atF gs s.he - p
      omega
    · show -n < min s.le (s.to + atF (upF gs) s.he)
      omega
    · show max s.mo (s.to + atF (upF gs) s.he) < n
      omega
theorem out_up {gs : List Int} {n : Int} (ok : OkG gs n) (hn : 0 < n) : ∀ i : Nat, (i : Int) ≤ n → -n < (outB gs (upF gs) gs.length i).le ∧ (outB gs (upF gs) gs.length i).mo < n
  | 0, _ => ⟨by show -n < 0; omega, by show (0 : Int) < n; omega⟩
  | i + 1, h => by
    have ih := out_up ok hn i (by omega)
    have := in_up ok (p := (i : Nat)) (by omega) ih.1 ih.2 gs.length
    exact ⟨this.2.1, this.2.2⟩
def spRB (CL : Addr) : SpT := fun its R => ∃ ls os row : List Int, its = [.d (lay CL ls os), .d (tI row)] ∧ OkL ls ∧ OkO ls.length os ∧ OkRow ls.sum row ∧ R (.d (bndF (goalF ls os) row)) [.d (lay CL ls os), .d (tI row)]
def spSR (CL : Addr) : SpT := fun its R => ∃ ls os : List Int, its = [.d (lay CL ls os)] ∧ OkL ls ∧ OkO ls.length os ∧ R (.d (tI (upF (goalF ls os)))) [.d (lay CL ls os)]
def spLB : SpT := fun its R => ∃ (gs row : List Int) (n : Int), its = [.d (.lst (gs.map D.int)), .d (tI row)] ∧ OkG gs n ∧ OkRow n row ∧ n ≤ 60 ∧ R (.d (bndF gs row)) [.d (.lst (gs.map D.int)), .d (tI row)]
def spRow : SpT := fun its R => ∃ (cs : List Int) (p q r u : Int) (gs : List Int) (n : Int), its = [.o (.l (hD cs p q r u)), .d (.lst (gs.map D.int))] ∧ 0 ≤ p ∧ OkG gs n ∧ 1 ≤ n ∧ n ≤ 60 ∧
  ∀ (row cs : List Int) (p q r u : Int), OkRow n row → 0 ≤ p → R (.d (tI row)) [.o (.l (hD cs p q r u)), .d (.lst (gs.map D.int))]
end K80
set_option Elab.async false
set_option linter.all false
set_option maxRecDepth 100000
set_option maxHeartbeats 4000000
namespace K80
open PySem PySem.Spec PyProof.Rows L2 AV LB
local macro_rules | `(tactic| ac_rfl) => `(tactic| first
  | (with_reducible refine g_ve ?_); first
    | (with_reducible refine g_name ?_); first
      | refine vv 0 rfl ?_
      | refine vv 1 rfl ?_
      | refine vv 2 rfl ?_
      | refine vv 3 rfl ?_
      | refine vv 4 rfl ?_
      | refine vv 5 rfl ?_
      | refine vv 6 rfl ?_
      | refine vv 7 rfl ?_
      | refine vv 8 rfl ?_
      | refine vv 9 rfl ?_
      | refine vv 10 rfl ?_
      | refine vv 11 rfl ?_
      | refine vv 12 rfl ?_
      | refine vv 13 rfl ?_
      | refine vv 14 rfl ?_
      | refine vv 15 rfl ?_
      | refine ve_ty "int" rfl (by assumption) bb_int ?_
      | refine ve_ty "tuple" rfl (by assumption) bb_tuple ?_
      | refine ve_ty "bool" rfl (by assumption) bb_bool ?_
      | refine ve_ty "list" rfl (by assumption) bb_list ?_
      | refine ve_ty "str" rfl (by assumption) bb_str ?_
      | refine ve_gint rfl (by assumption) (by decide) ?_
      | refine ve_gref rfl (by assumption) (by decide) ?_
    | (with_reducible refine g_con ?_); with_reducible first
      | refine ve_int ?_
      | refine ve_bl ?_
      | refine ve_non ?_
      | refine ve_str ?_
    | (with_reducible refine g_bin ?_); with_reducible first
      | refine ve_plus ?_
      | refine ve_minus ?_
      | refine ve_times ?_
      | refine ve_fdiv ?_
      | refine ve_mod ?_
      | refine ve_pow ?_
    | (with_reducible refine g_cmp ?_); first
      | (with_reducible refine ve_eq (by assumption) ?_)
      | (with_reducible refine ve_ne (by assumption) ?_)
      | (with_reducible refine ve_lt ?_)
      | (with_reducible refine ve_le ?_)
      | (with_reducible refine ve_gt ?_)
      | (with_reducible refine ve_ge ?_)
    | (with_reducible refine ve_ch_ll ?_)
    | (with_reducible refine ve_ch_lt ?_)
    | (with_reducible refine g_call "len" ?_); refine ve_lenA rfl (by assumption) ?_
    | (with_reducible refine g_call "abs" ?_); refine ve_abs rfl (by assumption) ?_
    | (with_reducible refine g_call "int" ?_); refine ve_int1 rfl (by assumption) ?_
    | (with_reducible refine g_call "sum" ?_); refine ve_sum rfl (by assumption) ?_
    | (with_reducible refine g_ofrg "tuple" ?_); refine ve_tupRg rfl (by assumption) rfl (by assumption) ?_
    | (with_reducible refine g_ofrg "list" ?_); refine ve_listRg rfl (by assumption) rfl (by assumption) ?_
    | (with_reducible refine g_call "tuple" ?_); refine ve_tupleOf rfl (by assumption) ?_
    | (with_reducible refine g_call "list" ?_); refine ve_listOf rfl (by assumption) ?_
    | (with_reducible refine g_call "repr" ?_); refine ve_repr (by assumption) (by assumption) rfl (by assumption) ?_
    | (with_reducible refine g_call "all" ?_); refine ve_all rfl (by assumption) ?_
    | (with_reducible refine g_call "any" ?_); refine ve_any rfl (by assumption) ?_
    | (with_reducible refine g_two "min" ?_); refine ve_min2 rfl (by assumption) ?_
    | (with_reducible refine g_two "max" ?_); refine ve_max2 rfl (by assumption) ?_
    | (with_reducible refine g_one "max" ?_); refine ve_maxL (by assumption) rfl (by assumption) ?_
    | (with_reducible refine g_one "min" ?_); refine ve_minL (by assumption) rfl (by assumption) ?_
    | (with_reducible refine g_isi "int" ?_); refine ve_isi "int" rfl (by assumption) ?_
    | (with_reducible refine g_isi "bool" ?_); refine ve_isi "bool" rfl (by assumption) ?_
    | (with_reducible refine g_isi "tuple" ?_); refine ve_isi "tuple" rfl (by assumption) ?_
    | (with_reducible refine g_isi "list" ?_); refine ve_isi "list" rfl (by assumption) ?_
    | (with_reducible refine g_isi "str" ?_); refine ve_isi "str" rfl (by assumption) ?_
    | (with_reducible refine g_meth "append" ?_); refine ve_append ?_
    | (with_reducible refine g_meth "extend" ?_); refine ve_extend ?_
    | (with_reducible refine g_meth "pop" ?_); refine ve_popAt ?_
    | (with_reducible refine g_meth "count" ?_); refine ve_count (by assumption) ?_
    | (with_reducible refine g_meth "index" ?_); refine ve_index (by assumption) ?_
    | (with_reducible refine g_calln ?_); refine ve_c (by assumption) (by assumption) (by assumption) rfl rfl ?_
    | (with_reducible refine g_calln ?_); refine ve_mk (by assumption) (by assumption) (by assumption) rfl ?_
    | (with_reducible refine g_attr ?_); refine ve_fld ?_
    | (with_reducible refine ve_rev ?_)
    | refine ve_at (by assumption) ?_
    | (with_reducible refine ve_if ?_)
    | (with_reducible refine ve_tup ?_)
    | (with_reducible refine ve_lst ?_)
    | (with_reducible refine ve_dnewK ?_)
    | (with_reducible refine ve_not' ?_)
    | (with_reducible refine ve_neg' ?_)
    | (with_reducible refine ve_and' ?_)
    | (with_reducible refine ve_or' ?_)
    | (with_reducible refine ve_one ?_)
  | (with_reducible refine g_vt ?_); first
    | (with_reducible refine g_tcmp ?_); first
      | (with_reducible refine vt_eq (by assumption) ?_)
      | (with_reducible refine vt_ne (by assumption) ?_)
      | (with_reducible refine vt_lt ?_)
      | (with_reducible refine vt_le ?_)
      | (with_reducible refine vt_gt ?_)
      | (with_reducible refine vt_ge ?_)
    | (with_reducible refine vt_ch_ll ?_)
    | (with_reducible refine vt_ch_lt ?_)
    | (with_reducible refine vt_not ?_)
    | (with_reducible refine VW.vt (vw_and ?_))
    | (with_reducible refine VW.vt (vw_or ?_))
    | refine vt_bl ?_
  | (with_reducible refine g_vw ?_); with_reducible first
    | refine vw_and ?_
    | refine vw_or ?_
    | refine vw_and1 ?_
    | refine vw_or1 ?_
  | (with_reducible refine g_va ?_); first
    | (with_reducible refine va_nil ?_)
    | refine va_cons ?_
  | (with_reducible refine g_vb ?_); with_reducible first
    | refine vb_nil ?_
    | refine vb_cons ?_
  | (with_reducible refine g_vs ?_); first
    | (with_reducible refine g_set ?_); first
      | refine vs_set (i := 0) (by assumption) rfl (by first | exact Or.inl rfl | exact Or.inr rfl) rfl ?_
      | refine vs_set (i := 1) (by assumption) rfl (by first | exact Or.inl rfl | exact Or.inr rfl) rfl ?_
      | refine vs_set (i := 2) (by assumption) rfl (by first | exact Or.inl rfl | exact Or.inr rfl) rfl ?_
      | refine vs_set (i := 3) (by assumption) rfl (by first | exact Or.inl rfl | exact Or.inr rfl) rfl ?_
      | refine vs_set (i := 4) (by assumption) rfl (by first | exact Or.inl rfl | exact Or.inr rfl) rfl ?_
      | refine vs_set (i := 5) (by assumption) rfl (by first | exact Or.inl rfl | exact Or.inr rfl) rfl ?_
      | refine vs_set (i := 6) (by assumption) rfl (by first | exact Or.inl rfl | exact Or.inr rfl) rfl ?_
      | refine vs_set (i := 7) (by assumption) rfl (by first | exact Or.inl rfl | exact Or.inr rfl) rfl ?_
      | refine vs_set (i := 8) (by assumption) rfl (by first | exact Or.inl rfl | exact Or.inr rfl) rfl ?_
      | refine vs_set (i := 9) (by assumption) rfl (by first | exact Or.inl rfl | exact Or.inr rfl) rfl ?_
      | refine vs_set (i := 10) (by assumption) rfl (by first | exact Or.inl rfl | exact Or.inr rfl) rfl ?_
      | refine vs_set (i := 11) (by assumption) rfl (by first | exact Or.inl rfl | exact Or.inr rfl) rfl ?_
      | refine vs_set (i := 12) (by assumption) rfl (by first | exact Or.inl rfl | exact Or.inr rfl) rfl ?_
      | refine vs_set (i := 13) (by assumption) rfl (by first | exact Or.inl rfl | exact Or.inr rfl) rfl ?_
      | refine vs_set (i := 14) (by assumption) rfl (by first | exact Or.inl rfl | exact Or.inr rfl) rfl ?_
      | refine vs_set (i := 15) (by assumption) rfl (by first | exact Or.inl rfl | exact Or.inr rfl) rfl ?_
    | (with_reducible refine g_aug ?_); first
      | refine vs_add 0 (by assumption) rfl (by first | exact Or.inl rfl | exact Or.inr rfl) rfl rfl ?_
      | refine vs_add 1 (by assumption) rfl (by first | exact Or.inl rfl | exact Or.inr rfl) rfl rfl ?_
      | refine vs_add 2 (by assumption) rfl (by first | exact Or.inl rfl | exact Or.inr rfl) rfl rfl ?_
      | refine vs_add 3 (by assumption) rfl (by first | exact Or.inl rfl | exact Or.inr rfl) rfl rfl ?_
      | refine vs_add 4 (by assumption) rfl (by first | exact Or.inl rfl | exact Or.inr rfl) rfl rfl ?_
      | refine vs_add 5 (by assumption) rfl (by first | exact Or.inl rfl | exact Or.inr rfl) rfl rfl ?_
      | refine vs_add 6 (by assumption) rfl (by first | exact Or.inl rfl | exact Or.inr rfl) rfl rfl ?_
      | refine vs_add 7 (by assumption) rfl (by first | exact Or.inl rfl | exact Or.inr rfl) rfl rfl ?_
      | refine vs_add 8 (by assumption) rfl (by first | exact Or.inl rfl | exact Or.inr rfl) rfl rfl ?_
      | refine vs_add 9 (by assumption) rfl (by first | exact Or.inl rfl | exact Or.inr rfl) rfl rfl ?_
      | refine vs_add 10 (by assumption) rfl (by first | exact Or.inl rfl | exact Or.inr rfl) rfl rfl ?_
      | refine vs_add 11 (by assumption) rfl (by first | exact Or.inl rfl | exact Or.inr rfl) rfl rfl ?_
      | refine vs_add 12 (by assumption) rfl (by first | exact Or.inl rfl | exact Or.inr rfl) rfl rfl ?_
      | refine vs_add 13 (by assumption) rfl (by first | exact Or.inl rfl | exact Or.inr rfl) rfl rfl ?_
      | refine vs_add 14 (by assumption) rfl (by first | exact Or.inl rfl | exact Or.inr rfl) rfl rfl ?_
      | refine vs_add 15 (by assumption) rfl (by first | exact Or.inl rfl | exact Or.inr rfl) rfl rfl ?_
    | (with_reducible refine g_fset ?_); refine vs_fld (i := 0) rfl (.inl rfl) (by decide) (by decide) ?_
    | (with_reducible refine g_put ?_); refine vs_put ?_
    | (with_reducible refine vs_ife ?_)
    | refine vs_ret ?_
    | refine vs_expr ?_
    | (with_reducible refine vs_pass ?_)
  | (with_reducible refine g_vps ?_); first
    | (with_reducible refine vps_nil ?_)
    | refine vps_cons ?_
  | (with_reducible refine g_nx ?_); first
    | refine vb_nil ?_
    | refine vb_cons ?_
  | (with_reducible refine g_rt ?_); first
    | refine rt_d ?_
    | refine rt_n ?_
    | refine rt_s rfl rfl ?_
  | (with_reducible refine g_stored ?_); first
    | refine st_d ?_
    | refine st_n ?_
  | (with_reducible refine g_sa ?_); first
    | refine sa_nil ?_
    | refine sa_d ?_
    | refine sa_n ?_
  | (with_reducible refine g_nos ?_); first
    | exact noS_d
    | exact noS_n
  | (with_reducible refine g_len ?_); rfl
  | (with_reducible refine g_pmake ?_); first
    | refine pmake_mk (so0 rfl) ?_
    | refine pmake_mk (so1 rfl rfl) ?_
  | (with_reducible refine g_pcall ?_); first
    | refine pcall_mk (so0 rfl) ?_
    | refine pcall_mk (so1 rfl rfl) ?_
    | refine pcall_mk (so2 rfl (by decide) rfl rfl) ?_
  | (with_reducible refine g_prg ?_); refine prg_mk (by omega) (by omega) ?_
  | (with_reducible refine g_pfld ?_); refine pfld_mk (by assumption) (by assumption) rfl ?_
  | (with_reducible refine g_pfst ?_); refine pfst_mk rfl (by assumption) (by assumption) (Nat.le_of_ble_eq_true rfl) ?_
  | (with_reducible refine g_plenA ?_); first
    | refine PLen.seq rfl ?_
    | refine PLen.dct rfl ?_
  | (with_reducible refine g_pbs ?_); refine pbs_mk rfl ?_
  | (with_reducible refine g_ptup ?_); first
    | refine ptupL rfl ?_
    | refine ptupT rfl ?_
  | (with_reducible refine g_plst ?_); refine plst_mk rfl ?_
  | (with_reducible refine g_psum ?_); refine psum_mk rfl ?_
  | (with_reducible refine g_prev ?_); first
    | refine prev_lst rfl ?_
    | refine prev_tup rfl ?_
    | refine PRevA.lst rfl ?_
    | refine PRevA.tup rfl ?_
  | (with_reducible refine g_pbo ?_); refine PBo.mk ?_ ?_
  | (with_reducible refine g_pneg ?_); refine PNeg.mk ?_
  | (with_reducible refine g_rch ?_); refine RCh.mk ?_ ?_
  | (with_reducible refine g_pi2 ?_); refine pi2_mk ?_
  | (with_reducible refine g_pi1 ?_); refine pi1_mk ?_
  | (with_reducible refine g_pisi ?_); refine pisi_mk rfl rfl (by first | exact kit_t (by decide) | exact kit_f (by decide)) ?_
  | (with_reducible refine g_tl ?_); refine tl_mk rfl
  | (with_reducible refine g_tls ?_); exact ⟨_, rfl⟩
  | (with_reducible refine g_rcnt ?_); refine rcntB rfl ?_
  | (with_reducible refine g_rds ?_); first
    | refine rds1 ?_
    | refine rds2 ?_
    | refine rds3 ?_
    | refine rds4 ?_
    | refine rds5 ?_
    | refine rds0 ?_
    | refine rds6 ?_
  | (with_reducible refine g_vbx ?_); with_reducible first
    | refine vbx_nil ?_
    | refine vbx_cons ?_
  | (with_reducible refine g_vsx ?_); first
    | (with_reducible refine g_raise ?_); refine vsx_raise rfl (by assumption) (by assumption) rfl ?_
    | (with_reducible refine g_ifx ?_); (with_reducible refine vsx_if (by assumption) ?_)
    | (with_reducible refine g_exprx ?_); refine vsx_expr ?_
    | (with_reducible refine vsx_of (by assumption) ?_)
  | (with_reducible refine g_vex ?_); first
    | refine vex_c (by assumption) (by assumption) (by assumption) (by assumption) rfl rfl ?_
    | (with_reducible refine vex_of (by assumption) ?_)
  | (with_reducible refine g_pcx ?_); first
    | refine pcx1 ?_
    | refine pcx2 ?_
    | refine pcx3 ?_
  | (with_reducible exact ft_)
  | (with_reducible exact tf_)
  | (with_reducible refine tt_ ?_)
  | (with_reducible refine ff_ ?_)
  | (with_reducible refine And.intro ?_ ?_)
  | (with_reducible refine g_qb ?_)
  | (with_reducible intro hh); (try simp only [id, Bool.not_true, Bool.not_false, decide_eq_true_eq, decide_eq_false_iff_not, Bool.not_eq_true', Bool.not_eq_false', reduceCtorEq, not_true_eq_false] at hh)
  | (with_reducible refine g_rplus ?_); refine RPlus.int ?_
  | (with_reducible refine g_rsub ?_); refine RSub.int ?_
  | (with_reducible refine g_rtimes ?_); refine RTimes.int (by first | exact .inl ⟨by omega, by omega⟩ | exact .inr ⟨by omega, by omega⟩) ?_
  | (with_reducible refine g_rdiv ?_); refine RDivI.int (by omega) (by omega) ?_
  | (with_reducible refine g_rmod ?_); refine RModI.int (by first | omega | decide) ?_
  | (with_reducible refine g_rpow ?_); refine RPowI.int (by decide) (by decide) ?_
  | (with_reducible refine g_rc2 ?_); refine RC2.int ?_
  | (with_reducible refine g_rq ?_); first
    | refine RQ.int ?_
    | refine RQ.str ?_
    | refine rq_tup rfl rfl ?_
    | refine rq_lst rfl rfl ?_
  | (with_reducible refine g_rat ?_); first
    | refine RAt.seq rfl (by first | assumption | exact at0 | exact at1 | exact at2 | exact at3 | exact at4) ?_
    | refine RAt.dct rfl rfl (by assumption) ?_
  | (with_reducible refine g_rput ?_); refine put5 rfl rfl (by omega) (by omega) ?_)
section
variable {P : Program} {w : World} {K : PySem.W.Frag} {mg : Str → Option Value} {base : Heap}
theorem ok_is_integer {f : Addr} {fd : FuncData} (gb : BI mg) (F : L2.Fun K "is_integer" "is_integer" (topS 8) f fd) (hm : mg "is_integer" = some (.ref f)) (b : Binds K fd ["thing"] [])  : CalV P w K mg base 1 "is_integer" 1 spIsInt := by
  have ⟨m_len, m_int, m_abs, m_sum, m_tuple, m_list, m_repr, m_range, m_isi, m_all, m_max, m_min, m_enum, m_bool, m_any, m_sorted, m_zip, m_set, m_str⟩ := gb
  refine calv0 F hm b rfl sc_is_integer ?_
  rintro cdv A outer s H E its α R hr hgd0 ⟨x, bb, rfl, hx, q⟩
  have hu : (bcx P w K mg base ["thing"] "is_integer" (topS 8) f cdv A outer s H E).A.units + 64 < cLine := hr.units
  have hu1 : (bcx P w K mg base ["thing"] "is_integer" (topS 8) f cdv A outer s H E).A.units + 1 < cLine := hu_of hr
  have hu65 : (bcx P w K mg base ["thing"] "is_integer" (topS 8) f cdv A outer s H E).A.units + 65 < cLine := room65 hr
  have hgd : (bcx P w K mg base ["thing"] "is_integer" (topS 8) f cdv A outer s H E).A.guards = some [] := hgd0
  have hN : (bcx P w K mg base ["thing"] "is_integer" (topS 8) f cdv A outer s H E).N.Nodup := sc_is_integer.nd
  have hnx : NoX (bcx P w K mg base ["thing"] "is_integer" (topS 8) f cdv A outer s H E) := ⟨rfl, fun _ _ z => z⟩
  cases x <;> first
    | (cases hx; refine vb_cons ?_; (repeat' ac_rfl); exact q)
    | (exfalso; cases hx)
theorem ok_is_within {f : Addr} {fd : FuncData} (gb : BI mg) (F : L2.Fun K "is_within" "is_within" (topS 9) f fd) (hm : mg "is_within" = some (.ref f)) (b : Binds K fd ["thing", "low", "high"] []) (ci : CalV P w K mg base 1 "is_integer" 1 spIsInt) : CalV P w K mg base 2 "is_within" 3 spWithin := by
  have ⟨m_len, m_int, m_abs, m_sum, m_tuple, m_list, m_repr, m_range, m_isi, m_all, m_max, m_min, m_enum, m_bool, m_any, m_sorted, m_zip, m_set, m_str⟩ := gb
  refine calv0 F hm b rfl sc_is_within ?_
  rintro cdv A outer s H E its α R hr hgd0 ⟨n, a, b, rfl, q⟩
  have hu : (bcx P w K mg base ["thing", "low", "high"] "is_within" (topS 9) f cdv A outer s H E).A.units + 64 < cLine := hr.units
  have hu1 : (bcx P w K mg base ["thing", "low", "high"] "is_within" (topS 9) f cdv A outer s H E).A.units + 1 < cLine := hu_of hr
  have hu65 : (bcx P w K mg base ["thing", "low", "high"] "is_within" (topS 9) f cdv A outer s H E).A.units + 65 < cLine := room65 hr
  have hgd : (bcx P w K mg base ["thing", "low", "high"] "is_within" (topS 9) f cdv A outer s H E).A.guards = some [] := hgd0
  have hN : (bcx P w K mg base ["thing", "low", "high"] "is_within" (topS 9) f cdv A outer s H E).N.Nodup := sc_is_within.nd
  have hnx : NoX (bcx P w K mg base ["thing", "low", "high"] "is_within" (topS 9) f cdv A outer s H E) := ⟨rfl, fun _ _ z => z⟩
  refine vb_cons ?_
  repeat' ac_rfl
  refine ⟨.int n, true, rfl, rfl, ?_⟩
  repeat' ac_rfl
  · exact bl_eq q (by simp [*])
  · exact bl_eq q (by simp [*])
theorem ok_are_lengths {f : Addr} {fd : FuncData} (gb : BI mg) (F : L2.Fun K "are_lengths" "are_lengths" (topS 10) f fd) (hm : mg "are_lengths" = some (.ref f)) (b : Binds K fd ["thing"] []) (c6 : CI mg "MOST_PIECES" 6) (c60 : CI mg "MOST_SIZE" 60) (cw : CalV P w K mg base 2 "is_within" 3 spWithin) : CalV P w K mg base 3 "are_lengths" 1 spAreL := by
  have ⟨m_len, m_int, m_abs, m_sum, m_tuple, m_list, m_repr, m_range, m_isi, m_all, m_max, m_min, m_enum, m_bool, m_any, m_sorted, m_zip, m_set, m_str⟩ := gb
  refine calv0 F hm b rfl sc_are_lengths ?_
  rintro cdv A outer s H E its α R hr hgd0 ⟨ls, rfl, ok, q⟩
  have hu : (bcx P w K mg base ["thing", "one"] "are_lengths" (topS 10) f cdv A outer s H E).A.units + 64 < cLine := hr.units
  have hu1 : (bcx P w K mg base ["thing", "one"] "are_lengths" (topS 10) f cdv A outer s H E).A.units + 1 < cLine := hu_of hr
  have hu65 : (bcx P w K mg base ["thing", "one"] "are_lengths" (topS 10) f cdv A outer s H E).A.units + 65 < cLine := room65 hr
  have hgd : (bcx P w K mg base ["thing", "one"] "are_lengths" (topS 10) f cdv A outer s H E).A.guards = some [] := hgd0
  have hN : (bcx P w K mg base ["thing", "one"] "are_lengths" (topS 10) f cdv A outer s H E).N.Nodup := sc_are_lengths.nd
  have hnx : NoX (bcx P w K mg base ["thing", "one"] "are_lengths" (topS 10) f cdv A outer s H E) := ⟨rfl, fun _ _ z => z⟩
  obtain ⟨t1, mp⟩ := c6
  obtain ⟨t2, ms⟩ := c60
  refine vb_cons ?_
  repeat' ac_rfl
  all_goals (have h1 := ok.ne; have h2 := ok.len; try (exfalso; simp only [List.length_map] at *; omega))
  refine ve_lc (own := [("one", 1)]) rfl hN (blkOk_by (N := ["thing", "one"]) (sc := defScope (topS 10)) (by decide +kernel)) (tb_name hN rfl (.inl rfl)) (pin1 rfl) (vi_tup ?_)
  repeat' ac_rfl
  refine ⟨_, ls.map D.int, rfl, .inl rfl, ?_⟩
  refine lc_mB ls D.int (fun _ => true) rfl (by omega) rfl (fun n hn => ⟨_, rfl, fun s H C cl fp => ?_⟩) ?_
  · repeat' ac_rfl
    refine ⟨n, 1, 60, rfl, ?_⟩
    refine ⟨?_, rfl⟩
    rw [decide_eq_true (ok.le hn)]; rfl
  repeat' ac_rfl
  · exact bl_eq q (decide_eq_true ok.sum).symm
  · simp at *
theorem ok_is_order {f : Addr} {fd : FuncData} (gb : BI mg) (F : L2.Fun K "is_order" "is_order" (topS 11) f fd) (hm : mg "is_order" = some (.ref f)) (b : Binds K fd ["thing"] []) (c6 : CI mg "MOST_PIECES" 6) (cw : CalV P w K mg base 2 "is_within" 3 spWithin) : CalV P w K mg base 3 "is_order" 1 spIsO := by
  have ⟨m_len, m_int, m_abs, m_sum, m_tuple, m_list, m_repr, m_range, m_isi, m_all, m_max, m_min, m_enum, m_bool, m_any, m_sorted, m_zip, m_set, m_str⟩ := gb
  refine calv0 F hm b rfl sc_is_order ?_
  rintro cdv A outer s H E its α R hr hgd0 ⟨os, rfl, l1, l6, ok, q⟩
  have hu : (bcx P w K mg base ["thing", "one"] "is_order" (topS 11) f cdv A outer s H E).A.units + 64 < cLine := hr.units
  have hu1 : (bcx P w K mg base ["thing", "one"] "is_order" (topS 11) f cdv A outer s H E).A.units + 1 < cLine := hu_of hr
  have hu65 : (bcx P w K mg base ["thing", "one"] "is_order" (topS 11) f cdv A outer s H E).A.units + 65 < cLine := room65 hr
  have hgd : (bcx P w K mg base ["thing", "one"] "is_order" (topS 11) f cdv A outer s H E).A.guards = some [] := hgd0
  have hN : (bcx P w K mg base ["thing", "one"] "is_order" (topS 11) f cdv A outer s H E).N.Nodup := sc_is_order.nd
  have hnx : NoX (bcx P w K mg base ["thing", "one"] "is_order" (topS 11) f cdv A outer s H E) := ⟨rfl, fun _ _ z => z⟩
  obtain ⟨t1, mp⟩ := c6
  refine vb_cons ?_
  repeat' ac_rfl
  all_goals try (exfalso; simp only [List.length_map] at *; omega)
  refine ve_lc (own := [("one", 1)]) rfl hN (blkOk_by (N := ["thing", "one"]) (sc := defScope (topS 11)) (by decide +kernel)) (tb_name hN rfl (.inl rfl)) (pin1 rfl) (vi_tup ?_)
  repeat' ac_rfl
  refine ⟨_, os.map D.int, rfl, .inl rfl, ?_⟩
  refine lc_mB os D.int (fun _ => true) rfl (by omega) rfl (fun n hn => ⟨_, rfl, fun s H C cl fp => ?_⟩) ?_
  · repeat' ac_rfl
    refine ⟨n, 0, _, rfl, ?_⟩
    refine ⟨?_, rfl⟩
    rw [decide_eq_true (show 0 ≤ n ∧ n ≤ ((os.map D.int).length : Int) - 1 by have := ok.lo n hn; rw [List.length_map]; omega)]; rfl
  repeat' ac_rfl
  · refine ve_dc (own := [("one", 1)]) rfl hN (blkOk_by (N := ["thing", "one"]) (sc := defScope (topS 11)) (by decide +kernel)) (tb_name hN rfl (.inl rfl)) (pin1 rfl) (vi_tup ?_)
    repeat' ac_rfl
    refine ⟨_, os.map D.int, rfl, .inl rfl, ?_⟩
    refine dc_unlike (kk := fun n => .inl n) os (.bl true) rfl (by omega) ok.nd rfl (fun _ => rfl) (fun n m h => by cases h; rfl) (fun n hn s H C cl fp => ?_) fun ds hds => ?_
    · repeat' ac_rfl
      exact fun s H C cl fp => ve_bl ⟨rfl, rfl⟩
    · repeat' ac_rfl
      exact bl_eq q (by simp [hds])
  · exfalso; simp at *
theorem ok_starts_of {f : Addr} {fd : FuncData} (gb : BI mg) (F : L2.Fun K "starts_of" "starts_of" (topS 12) f fd) (hm : mg "starts_of" = some (.ref f)) (b : Binds K fd ["lengths", "order"] [])  : CalV P w K mg base 1 "starts_of" 2 spStarts := by
  have ⟨m_len, m_int, m_abs, m_sum, m_tuple, m_list, m_repr, m_range, m_isi, m_all, m_max, m_min, m_enum, m_bool, m_any, m_sorted, m_zip, m_set, m_str⟩ := gb
  refine calv0 F hm b rfl sc_starts_of ?_
  rintro cdv A outer s H E its α R hr hgd0 ⟨ls, os, rfl, l6, ok, q⟩
  have hu : (bcx P w K mg base ["lengths", "order", "piece", "found", "here"] "starts_of" (topS 12) f cdv A outer s H E).A.units + 64 < cLine := hr.units
  have hu1 : (bcx P w K mg base ["lengths", "order", "piece", "found", "here"] "starts_of" (topS 12) f cdv A outer s H E).A.units + 1 < cLine := hu_of hr
  have hu65 : (bcx P w K mg base ["lengths", "order", "piece", "found", "here"] "starts_of" (topS 12) f cdv A outer s H E).A.units + 65 < cLine := room65 hr
  have hgd : (bcx P w K mg base ["lengths", "order", "piece", "found", "here"] "starts_of" (topS 12) f cdv A outer s H E).A.guards = some [] := hgd0
  have hN : (bcx P w K mg base ["lengths", "order", "piece", "found", "here"] "starts_of" (topS 12) f cdv A outer s H E).N.Nodup := sc_starts_of.nd
  have hnx : NoX (bcx P w K mg base ["lengths", "order", "piece", "found", "here"] "starts_of" (topS 12) f cdv A outer s H E) := ⟨rfl, fun _ _ z => z⟩
  refine vb_cons (vs_par2 (i := 3) (j := 4) rfl hN rfl rfl (by decide) rfl rfl rfl rfl ?_)
  repeat' ac_rfl
  refine vs_for (tf_name (i := 2) hN rfl (.inl rfl)) (fun i hi => by simp at hi; subst hi; rfl) (vi_tup ?_) rfl
  repeat' ac_rfl
  refine ⟨_, os.map D.int, rfl, .inl rfl, fun i Γ => ∃ kvs x, Γ = [some (.d (tI ls)), some (.d (tI os)), x, some (.o (.k kvs)), some (.d (.int (stAt ls os i)))] ∧ kvs.length ≤ i ∧ ∀ (j : Nat) p, j < i → os[j]? = some p → dv kvs (.inl p) = some (.int (stAt ls os j)), ⟨[], none, rfl, Nat.le_refl _, fun j p h => by omega⟩, ?_, ?_⟩
  · rintro i x Γ' hx ⟨kvs, y, rfl, hl, hd⟩
    obtain ⟨n, hn, rfl⟩ := map_get hx
    have hi : i < os.length := (List.getElem?_eq_some_iff.mp hn).1
    have hb := ok.lo n (List.mem_of_getElem? hn)
    have hat := at_len hb.1 hb.2
    refine ⟨_, rfl, vb_cons (vs_dput hu1 ?_)⟩
    repeat' ac_rfl
    refine ⟨3, kvs, .int n, .inl n, _, rfl, rfl, rfl, rfl, rfl, by have := ok.len; omega, ?_⟩
    repeat' ac_rfl
    have e := stAt_succ (ls := ls) hn
    refine ⟨_, _, by rw [e]; rfl, Nat.le_trans dp_length (by omega), fun j p hj hp => ?_⟩
    rw [dv_dp]
    by_cases ej : j = i
    · subst ej
      rw [hn] at hp; cases hp
      rw [if_pos rfl]
    · rw [if_neg (fun z => nd_ne ok.nd hp hn ej (by cases z; rfl))]
      exact hd j p (by omega) hp
  · rintro Γ' ⟨kvs, y, rfl, hl, hd⟩
    repeat' ac_rfl
    exact q kvs fun j p hp => hd j p (by have := (List.getElem?_eq_some_iff.mp hp).1; simpa using this) hp
theorem ok_goals_of {f : Addr} {fd : FuncData} (gb : BI mg) (F : L2.Fun K "goals_of" "goals_of" (topS 13) f fd) (hm : mg "goals_of" = some (.ref f)) (b : Binds K fd ["lengths", "order"] []) (cs : CalV P w K mg base 1 "starts_of" 2 spStarts) : CalV P w K mg base 2 "goals_of" 2 spGoals := by
  have ⟨m_len, m_int, m_abs, m_sum, m_tuple, m_list, m_repr, m_range, m_isi, m_all, m_max, m_min, m_enum, m_bool, m_any, m_sorted, m_zip, m_set, m_str⟩ := gb
  refine calv0 F hm b rfl sc_goals_of ?_
  rintro cdv A outer s H E its α R hr hgd0 ⟨ls, os, rfl, okl, ok, q⟩
  have hu : (bcx P w K mg base ["lengths", "order", "laid", "found", "piece", "length", "at"] "goals_of" (topS 13) f cdv A outer s H E).A.units + 64 < cLine := hr.units
  have hu1 : (bcx P w K mg base ["lengths", "order", "laid", "found", "piece", "length", "at"] "goals_of" (topS 13) f cdv A outer s H E).A.units + 1 < cLine := hu_of hr
  have hu65 : (bcx P w K mg base ["lengths", "order", "laid", "found", "piece", "length", "at"] "goals_of" (topS 13) f cdv A outer s H E).A.units + 65 < cLine := room65 hr
  have hgd : (bcx P w K mg base ["lengths", "order", "laid", "found", "piece", "length", "at"] "goals_of" (topS 13) f cdv A outer s H E).A.guards = some [] := hgd0
  have hN : (bcx P w K mg base ["lengths", "order", "laid", "found", "piece", "length", "at"] "goals_of" (topS 13) f cdv A outer s H E).N.Nodup := sc_goals_of.nd
  have hnx : NoX (bcx P w K mg base ["lengths", "order", "laid", "found", "piece", "length", "at"] "goals_of" (topS 13) f cdv A outer s H E) := ⟨rfl, fun _ _ z => z⟩
  refine vb_cons (vs_unp2 (i := 2) (j := 3) rfl hN rfl rfl (.inr rfl) (.inl rfl) rfl rfl ?_)
  repeat' ac_rfl
  refine ⟨ls, os, rfl, okl.len, ok, fun kvs hk => ?_⟩
  repeat' ac_rfl
  refine vs_for (tf_pair (i := 4) (j := 5) rfl hN (by decide) rfl (.inr rfl) rfl (.inl rfl)) (fun i hi => by simp at hi; rcases hi with rfl | rfl <;> rfl) (vi_enumT rfl m_enum ?_) rfl
  repeat' ac_rfl
  refine ⟨_, ls.map D.int, rfl, .inl rfl, fun i Γ => ∃ x4 x5, Γ = [some (.d (tI ls)), some (.d (tI os)), some (.o (.k kvs)), some (.o (.l ((gPre ls os i).map D.int))), x4, x5, none], ⟨none, none, rfl⟩, ?_, ?_⟩
  · rintro i x Γ' hx ⟨x4, x5, rfl⟩
    obtain ⟨l, hl, rfl⟩ := enD_get hx
    have hi : i < ls.length := (List.getElem?_eq_some_iff.mp hl).1
    have hb := okl.le (List.mem_of_getElem? hl)
    have hd := hk.get ok (p := (i : Nat)) (by omega) (by omega)
    have hlen := gPre_len ls os i okl.pos (by omega)
    have hsum := take_sum_le ls i okl.pos
    have hs := okl.sum
    refine ⟨_, ⟨_, _, rfl, rfl⟩, vb_cons ?_⟩
    repeat' ac_rfl
    · refine ve_lc (own := [("at", 6)]) rfl hN (blkOk_by (N := ["lengths", "order", "laid", "found", "piece", "length", "at"]) (sc := defScope (topS 13)) (by decide +kernel)) (tb_name hN rfl (.inl rfl)) (pin1 rfl) (vi_rg1 rfl m_range ?_)
      repeat' ac_rfl
      refine ⟨l, rfl, by omega, by omega, ?_⟩
      refine lc_mI (rgI 0 l) D.int (fun at' => stOf ls os i + at') (rgD_I l) (by rw [rgI_length]; omega) rfl (fun n hn => ⟨_, rfl, fun s H C cl fp => ?_⟩) ?_
      · repeat' ac_rfl
      repeat' ac_rfl
      refine rext_mk rfl rfl (by simp only [List.length_map, rgI_length]; omega) ?_
      repeat' ac_rfl
      exact ⟨_, _, by rw [gPre_succ hl, List.map_append]; rfl⟩
  · rintro Γ' ⟨x4, x5, rfl⟩
    repeat' ac_rfl
    rw [enD_len, gPre_all]
    exact q
theorem ok_Laying {f CL : Addr} {fd : FuncData} (gb : BI mg) (M : Mk K CL f) (F : L2.Fun K "__init__" "Laying.__init__" (inClass (topS 14) 0) f fd) (hm : mg "Laying" = some (.ref CL)) (b : Binds K fd ["self", "lengths", "order"] []) (L : LC K CL) (c1 : CalV P w K mg base 3 "are_lengths" 1 spAreL) (c2 : CalV P w K mg base 3 "is_order" 1 spIsO) (c3 : CalV P w K mg base 3 "goals_of" 2 spGoals) : MakV P w K mg base 4 "Laying" CL 2 (spInit CL) := by
  have ⟨m_len, m_int, m_abs, m_sum, m_tuple, m_list, m_repr, m_range, m_isi, m_all, m_max, m_min, m_enum, m_bool, m_any, m_sorted, m_zip, m_set, m_str⟩ := gb
  refine makv0 M F hm b rfl sc_Laying___init__ ?_
  rintro cdv A outer s H E its α R hr hgd0 ⟨ls, os, rfl, okl, ok, q⟩
  have hu : (bcx P w K mg base ["self", "lengths", "order"] "Laying.__init__" (inClass (topS 14) 0) f cdv A outer s H E).A.units + 64 < cLine := hr.units
  have hu1 : (bcx P w K mg base ["self", "lengths", "order"] "Laying.__init__" (inClass (topS 14) 0) f cdv A outer s H E).A.units + 1 < cLine := hu_of hr
  have hu65 : (bcx P w K mg base ["self", "lengths", "order"] "Laying.__init__" (inClass (topS 14) 0) f cdv A outer s H E).A.units + 65 < cLine := room65 hr
  have hgd : (bcx P w K mg base ["self", "lengths", "order"] "Laying.__init__" (inClass (topS 14) 0) f cdv A outer s H E).A.guards = some [] := hgd0
  have hN : (bcx P w K mg base ["self", "lengths", "order"] "Laying.__init__" (inClass (topS 14) 0) f cdv A outer s H E).N.Nodup := sc_Laying___init__.nd
  have hnx : NoX (bcx P w K mg base ["self", "lengths", "order"] "Laying.__init__" (inClass (topS 14) 0) f cdv A outer s H E) := ⟨rfl, fun _ _ z => z⟩
  have ⟨⟨hcl, _, _, _, _, _⟩, n1, n2, n3, n4, n5⟩ := L
  refine vb_cons ?_
  repeat' ac_rfl
  refine ⟨ls, rfl, okl, ?_⟩
  repeat' ac_rfl
  refine ⟨os, rfl, by have := ok.len; have := okl.ne; omega, by have := ok.len; have := okl.len; omega, by rw [ok.len]; exact ok, ?_⟩
  repeat' ac_rfl
  · exfalso
    have := ok.len
    simp only [List.length_map] at *
    omega
  · refine ⟨ls, os, rfl, okl, ok, ?_⟩
    repeat' ac_rfl
    refine nx_end ?_
    have e : layF ls os = ([("lengths", tI ls), ("order", tI os), ("many", .int ((ls.map D.int).length : Nat)), ("size", .int ls.sum), ("goal", tI (goalF ls os))] : List (Str × D)) := by unfold layF; rw [List.length_map]
    rw [e] at q
    exact q
theorem ok_check_laying {f : Addr} {fd : FuncData} (gb : BI mg) (F : L2.Fun K "check_laying" "check_laying" (topS 15) f fd) (hm : mg "check_laying" = some (.ref f)) (b : Binds K fd ["thing"] []) {CL : Addr} (L : LC K CL) (mL : mg "Laying" = some (.ref CL)) : CalV P w K mg base 1 "check_laying" 1 (spChk CL) := by
  have ⟨m_len, m_int, m_abs, m_sum, m_tuple, m_list, m_repr, m_range, m_isi, m_all, m_max, m_min, m_enum, m_bool, m_any, m_sorted, m_zip, m_set, m_str⟩ := gb
  refine calv0 F hm b rfl sc_check_laying ?_
  rintro cdv A outer s H E its α R hr hgd0 ⟨ls, os, rfl, q⟩
  have hu : (bcx P w K mg base ["thing"] "check_laying" (topS 15) f cdv A outer s H E).A.units + 64 < cLine := hr.units
  have hu1 : (bcx P w K mg base ["thing"] "check_laying" (topS 15) f cdv A outer s H E).A.units + 1 < cLine := hu_of hr
  have hu65 : (bcx P w K mg base ["thing"] "check_laying" (topS 15) f cdv A outer s H E).A.units + 65 < cLine := room65 hr
  have hgd : (bcx P w K mg base ["thing"] "check_laying" (topS 15) f cdv A outer s H E).A.guards = some [] := hgd0
  have hN : (bcx P w K mg base ["thing"] "check_laying" (topS 15) f cdv A outer s H E).N.Nodup := sc_check_laying.nd
  have hnx : NoX (bcx P w K mg base ["thing"] "check_laying" (topS 15) f cdv A outer s H E) := ⟨rfl, fun _ _ z => z⟩
  refine vb_cons ?_
  repeat' ac_rfl
  refine ve_isC CL rfl m_isi ?_
  repeat' ac_rfl
  refine ⟨rfl, .inl ⟨_, rfl, L.ok, ?_⟩⟩
  repeat' ac_rfl
  refine nx_end ?_
  exact q
end
end K80
set_option Elab.async false
set_option linter.all false
set_option maxRecDepth 100000
set_option maxHeartbeats 4000000
namespace K80
open PySem PySem.Spec PyProof.Rows L2 AV LB
local macro_rules | `(tactic| ac_rfl) => `(tactic| first
  | (with_reducible refine g_ve ?_); first
    | (with_reducible refine g_name ?_); first
      | refine vv 0 rfl ?_
      | refine vv 1 rfl ?_
      | refine vv 2 rfl ?_
      | refine vv 3 rfl ?_
      | refine vv 4 rfl ?_
      | refine vv 5 rfl ?_
      | refine vv 6 rfl ?_
      | refine vv 7 rfl ?_
      | refine vv 8 rfl ?_
      | refine vv 9 rfl ?_
      | refine vv 10 rfl ?_
      | refine vv 11 rfl ?_
      | refine vv 12 rfl ?_
      | refine vv 13 rfl ?_
      | refine vv 14 rfl ?_
      | refine vv 15 rfl ?_
      | refine ve_ty "int" rfl (by assumption) bb_int ?_
      | refine ve_ty "tuple" rfl (by assumption) bb_tuple ?_
      | refine ve_ty "bool" rfl (by assumption) bb_bool ?_
      | refine ve_ty "list" rfl (by assumption) bb_list ?_
      | refine ve_ty "str" rfl (by assumption) bb_str ?_
      | refine ve_gint rfl (by assumption) (by decide) ?_
      | refine ve_gref rfl (by assumption) (by decide) ?_
    | (with_reducible refine g_con ?_); with_reducible first
      | refine ve_int ?_
      | refine ve_bl ?_
      | refine ve_non ?_
      | refine ve_str ?_
    | (with_reducible refine g_bin ?_); with_reducible first
      | refine ve_plus ?_
      | refine ve_minus ?_
      | refine ve_times ?_
      | refine ve_fdiv ?_
      | refine ve_mod ?_
      | refine ve_pow ?_
    | (with_reducible refine g_cmp ?_); first
      | (with_reducible refine ve_eq (by assumption) ?_)
      | (with_reducible refine ve_ne (by assumption) ?_)
      | (with_reducible refine ve_lt ?_)
      | (with_reducible refine ve_le ?_)
      | (with_reducible refine ve_gt ?_)
      | (with_reducible refine ve_ge ?_)
    | (with_reducible refine ve_ch_ll ?_)
    | (with_reducible refine ve_ch_lt ?_)
    | (with_reducible refine g_call "len" ?_); refine ve_lenA rfl (by assumption) ?_
    | (with_reducible refine g_call "abs" ?_); refine ve_abs rfl (by assumption) ?_
    | (with_reducible refine g_call "int" ?_); refine ve_int1 rfl (by assumption) ?_
    | (with_reducible refine g_call "sum" ?_); refine ve_sum rfl (by assumption) ?_
    | (with_reducible refine g_ofrg "tuple" ?_); refine ve_tupRg rfl (by assumption) rfl (by assumption) ?_
    | (with_reducible refine g_ofrg "list" ?_); refine ve_listRg rfl (by assumption) rfl (by assumption) ?_
    | (with_reducible refine g_call "tuple" ?_); refine ve_tupleOf rfl (by assumption) ?_
    | (with_reducible refine g_call "list" ?_); refine ve_listOf rfl (by assumption) ?_
    | (with_reducible refine g_call "repr" ?_); refine ve_repr (by assumption) (by assumption) rfl (by assumption) ?_
    | (with_reducible refine g_call "all" ?_); refine ve_all rfl (by assumption) ?_
    | (with_reducible refine g_call "any" ?_); refine ve_any rfl (by assumption) ?_
    | (with_reducible refine g_two "min" ?_); refine ve_min2 rfl (by assumption) ?_
    | (with_reducible refine g_two "max" ?_); refine ve_max2 rfl (by assumption) ?_
    | (with_reducible refine g_one "max" ?_); refine ve_maxL (by assumption) rfl (by assumption) ?_
    | (with_reducible refine g_one "min" ?_); refine ve_minL (by assumption) rfl (by assumption) ?_
    | (with_reducible refine g_isi "int" ?_); refine ve_isi "int" rfl (by assumption) ?_
    | (with_reducible refine g_isi "bool" ?_); refine ve_isi "bool" rfl (by assumption) ?_
    | (with_reducible refine g_isi "tuple" ?_); refine ve_isi "tuple" rfl (by assumption) ?_
    | (with_reducible refine g_isi "list" ?_); refine ve_isi "list" rfl (by assumption) ?_
    | (with_reducible refine g_isi "str" ?_); refine ve_isi "str" rfl (by assumption) ?_
    | (with_reducible refine g_meth "append" ?_); refine ve_append ?_
    | (with_reducible refine g_meth "extend" ?_); refine ve_extend ?_
    | (with_reducible refine g_meth "pop" ?_); refine ve_popAt ?_
    | (with_reducible refine g_meth "count" ?_); refine ve_count (by assumption) ?_
    | (with_reducible refine g_meth "index" ?_); refine ve_index (by assumption) ?_
    | (with_reducible refine g_calln ?_); refine ve_c (by assumption) (by assumption) (by assumption) rfl rfl ?_
    | (with_reducible refine g_calln ?_); refine ve_mk (by assumption) (by assumption) (by assumption) rfl ?_
    | (with_reducible refine g_attr ?_); refine ve_fld ?_
    | (with_reducible refine ve_rev ?_)
    | refine ve_at (by assumption) ?_
    | (with_reducible refine ve_if ?_)
    | (with_reducible refine ve_tup ?_)
    | (with_reducible refine ve_lst ?_)
    | (with_reducible refine ve_dnewK ?_)
    | (with_reducible refine ve_not' ?_)
    | (with_reducible refine ve_neg' ?_)
    | (with_reducible refine ve_and' ?_)
    | (with_reducible refine ve_or' ?_)
    | (with_reducible refine ve_one ?_)
  | (with_reducible refine g_vt ?_); first
    | (with_reducible refine g_tcmp ?_); first
      | (with_reducible refine vt_eq (by assumption) ?_)
      | (with_reducible refine vt_ne (by assumption) ?_)
      | (with_reducible refine vt_lt ?_)
      | (with_reducible refine vt_le ?_)
      | (with_reducible refine vt_gt ?_)
      | (with_reducible refine vt_ge ?_)
    | (with_reducible refine vt_ch_ll ?_)
    | (with_reducible refine vt_ch_lt ?_)
    | (with_reducible refine vt_not ?_)
    | (with_reducible refine VW.vt (vw_and ?_))
    | (with_reducible refine VW.vt (vw_or ?_))
    | refine vt_bl ?_
  | (with_reducible refine g_vw ?_); with_reducible first
    | refine vw_and ?_
    | refine vw_or ?_
    | refine vw_and1 ?_
    | refine vw_or1 ?_
  | (with_reducible refine g_va ?_); first
    | (with_reducible refine va_nil ?_)
    | refine va_cons ?_
  | (with_reducible refine g_vb ?_); with_reducible first
    | refine vb_nil ?_
    | refine vb_cons ?_
  | (with_reducible refine g_vs ?_); first
    | (with_reducible refine g_set ?_); first
      | refine vs_set (i := 0) (by assumption) rfl (by first | exact Or.inl rfl | exact Or.inr rfl) rfl ?_
      | refine vs_set (i := 1) (by assumption) rfl (by first | exact Or.inl rfl | exact Or.inr rfl) rfl ?_
      | refine vs_set (i := 2) (by assumption) rfl (by first | exact Or.inl rfl | exact Or.inr rfl) rfl ?_
      | refine vs_set (i := 3) (by assumption) rfl (by first | exact Or.inl rfl | exact Or.inr rfl) rfl ?_
      | refine vs_set (i := 4) (by assumption) rfl (by first | exact Or.inl rfl | exact Or.inr rfl) rfl ?_
      | refine vs_set (i := 5) (by assumption) rfl (by first | exact Or.inl rfl | exact Or.inr rfl) rfl ?_
      | refine vs_set (i := 6) (by assumption) rfl (by first | exact Or.inl rfl | exact Or.inr rfl) rfl ?_
      | refine vs_set (i := 7) (by assumption) rfl (by first | exact Or.inl rfl | exact Or.inr rfl) rfl ?_
      | refine vs_set (i := 8) (by assumption) rfl (by first | exact Or.inl rfl | exact Or.inr rfl) rfl ?_
      | refine vs_set (i := 9) (by assumption) rfl (by first | exact Or.inl rfl | exact Or.inr rfl) rfl ?_
      | refine vs_set (i := 10) (by assumption) rfl (by first | exact Or.inl rfl | exact Or.inr rfl) rfl ?_
      | refine vs_set (i := 11) (by assumption) rfl (by first | exact Or.inl rfl | exact Or.inr rfl) rfl ?_
      | refine vs_set (i := 12) (by assumption) rfl (by first | exact Or.inl rfl | exact Or.inr rfl) rfl ?_
      | refine vs_set (i := 13) (by assumption) rfl (by first | exact Or.inl rfl | exact Or.inr rfl) rfl ?_
      | refine vs_set (i := 14) (by assumption) rfl (by first | exact Or.inl rfl | exact Or.inr rfl) rfl ?_
      | refine vs_set (i := 15) (by assumption) rfl (by first | exact Or.inl rfl | exact Or.inr rfl) rfl ?_
    | (with_reducible refine g_aug ?_); first
      | refine vs_add 0 (by assumption) rfl (by first | exact Or.inl rfl | exact Or.inr rfl) rfl rfl ?_
      | refine vs_add 1 (by assumption) rfl (by first | exact Or.inl rfl | exact Or.inr rfl) rfl rfl ?_
      | refine vs_add 2 (by assumption) rfl (by first | exact Or.inl rfl | exact Or.inr rfl) rfl rfl ?_
      | refine vs_add 3 (by assumption) rfl (by first | exact Or.inl rfl | exact Or.inr rfl) rfl rfl ?_
      | refine vs_add 4 (by assumption) rfl (by first | exact Or.inl rfl | exact Or.inr rfl) rfl rfl ?_
      | refine vs_add 5 (by assumption) rfl (by first | exact Or.inl rfl | exact Or.inr rfl) rfl rfl ?_
      | refine vs_add 6 (by assumption) rfl (by first | exact Or.inl rfl | exact Or.inr rfl) rfl rfl ?_
      | refine vs_add 7 (by assumption) rfl (by first | exact Or.inl rfl | exact Or.inr rfl) rfl rfl ?_
      | refine vs_add 8 (by assumption) rfl (by first | exact Or.inl rfl | exact Or.inr rfl) rfl rfl ?_
      | refine vs_add 9 (by assumption) rfl (by first | exact Or.inl rfl | exact Or.inr rfl) rfl rfl ?_
      | refine vs_add 10 (by assumption) rfl (by first | exact Or.inl rfl | exact Or.inr rfl) rfl rfl ?_
      | refine vs_add 11 (by assumption) rfl (by first | exact Or.inl rfl | exact Or.inr rfl) rfl rfl ?_
      | refine vs_add 12 (by assumption) rfl (by first | exact Or.inl rfl | exact Or.inr rfl) rfl rfl ?_
      | refine vs_add 13 (by assumption) rfl (by first | exact Or.inl rfl | exact Or.inr rfl) rfl rfl ?_
      | refine vs_add 14 (by assumption) rfl (by first | exact Or.inl rfl | exact Or.inr rfl) rfl rfl ?_
      | refine vs_add 15 (by assumption) rfl (by first | exact Or.inl rfl | exact Or.inr rfl) rfl rfl ?_
    | (with_reducible refine g_fset ?_); refine vs_fld (i := 0) rfl (.inl rfl) (by decide) (by decide) ?_
    | (with_reducible refine g_put ?_); refine vs_put ?_
    | (with_reducible refine vs_ife ?_)
    | refine vs_ret ?_
    | refine vs_expr ?_
    | (with_reducible refine vs_pass ?_)
  | (with_reducible refine g_vps ?_); first
    | (with_reducible refine vps_nil ?_)
    | refine vps_cons ?_
  | (with_reducible refine g_nx ?_); first
    | refine vb_nil ?_
    | refine vb_cons ?_
  | (with_reducible refine g_rt ?_); first
    | refine rt_d ?_
    | refine rt_n ?_
    | refine rt_s rfl rfl ?_
  | (with_reducible refine g_stored ?_); first
    | refine st_d ?_
    | refine st_n ?_
  | (with_reducible refine g_sa ?_); first
    | refine sa_nil ?_
    | refine sa_d ?_
    | refine sa_n ?_
  | (with_reducible refine g_nos ?_); first
    | exact noS_d
    | exact noS_n
  | (with_reducible refine g_len ?_); rfl
  | (with_reducible refine g_pmake ?_); first
    | refine pmake_mk (so0 rfl) ?_
    | refine pmake_mk (so1 rfl rfl) ?_
  | (with_reducible refine g_pcall ?_); first
    | refine pcall_mk (so0 rfl) ?_
    | refine pcall_mk (so1 rfl rfl) ?_
    | refine pcall_mk (so2 rfl (by decide) rfl rfl) ?_
  | (with_reducible refine g_prg ?_); refine prg_mk (by omega) (by omega) ?_
  | (with_reducible refine g_pfld ?_); refine pfld_mk (by assumption) (by assumption) rfl ?_
  | (with_reducible refine g_pfst ?_); refine pfst_mk rfl (by assumption) (by assumption) (Nat.le_of_ble_eq_true rfl) ?_
  | (with_reducible refine g_plenA ?_); first
    | refine PLen.seq rfl ?_
    | refine PLen.dct rfl ?_
  | (with_reducible refine g_pbs ?_); refine pbs_mk rfl ?_
  | (with_reducible refine g_ptup ?_); first
    | refine ptupL rfl ?_
    | refine ptupT rfl ?_
  | (with_reducible refine g_plst ?_); refine plst_mk rfl ?_
  | (with_reducible refine g_psum ?_); refine psum_mk rfl ?_
  | (with_reducible refine g_prev ?_); first
    | refine prev_lst rfl ?_
    | refine prev_tup rfl ?_
    | refine PRevA.lst rfl ?_
    | refine PRevA.tup rfl ?_
  | (with_reducible refine g_pbo ?_); refine PBo.mk ?_ ?_
  | (with_reducible refine g_pneg ?_); refine PNeg.mk ?_
  | (with_reducible refine g_rch ?_); refine RCh.mk ?_ ?_
  | (with_reducible refine g_pi2 ?_); refine pi2_mk ?_
  | (with_reducible refine g_pi1 ?_); refine pi1_mk ?_
  | (with_reducible refine g_pisi ?_); refine pisi_mk rfl rfl (by first | exact kit_t (by decide) | exact kit_f (by decide)) ?_
  | (with_reducible refine g_tl ?_); refine tl_mk rfl
  | (with_reducible refine g_tls ?_); exact ⟨_, rfl⟩
  | (with_reducible refine g_rcnt ?_); refine rcntB rfl ?_
  | (with_reducible refine g_rds ?_); first
    | refine rds1 ?_
    | refine rds2 ?_
    | refine rds3 ?_
    | refine rds4 ?_
    | refine rds5 ?_
    | refine rds0 ?_
    | refine rds6 ?_
  | (with_reducible refine g_vbx ?_); with_reducible first
    | refine vbx_nil ?_
    | refine vbx_cons ?_
  | (with_reducible refine g_vsx ?_); first
    | (with_reducible refine g_raise ?_); refine vsx_raise rfl (by assumption) (by assumption) rfl ?_
    | (with_reducible refine g_ifx ?_); (with_reducible refine vsx_if (by assumption) ?_)
    | (with_reducible refine g_exprx ?_); refine vsx_expr ?_
    | (with_reducible refine vsx_of (by assumption) ?_)
  | (with_reducible refine g_vex ?_); first
    | refine vex_c (by assumption) (by assumption) (by assumption) (by assumption) rfl rfl ?_
    | (with_reducible refine vex_of (by assumption) ?_)
  | (with_reducible refine g_pcx ?_); first
    | refine pcx1 ?_
    | refine pcx2 ?_
    | refine pcx3 ?_
  | (with_reducible exact ft_)
  | (with_reducible exact tf_)
  | (with_reducible refine tt_ ?_)
  | (with_reducible refine ff_ ?_)
  | (with_reducible refine And.intro ?_ ?_)
  | (with_reducible refine g_qb ?_)
  | (with_reducible intro hh); (try simp only [id, Bool.not_true, Bool.not_false, decide_eq_true_eq, decide_eq_false_iff_not, Bool.not_eq_true', Bool.not_eq_false', reduceCtorEq, not_true_eq_false] at hh)
  | (with_reducible refine g_rplus ?_); refine RPlus.int ?_
  | (with_reducible refine g_rsub ?_); refine RSub.int ?_
  | (with_reducible refine g_rtimes ?_); refine RTimes.int (by first | exact .inl ⟨by omega, by omega⟩ | exact .inr ⟨by omega, by omega⟩) ?_
  | (with_reducible refine g_rdiv ?_); refine RDivI.int (by omega) (by omega) ?_
  | (with_reducible refine g_rmod ?_); refine RModI.int (by first | omega | decide) ?_
  | (with_reducible refine g_rpow ?_); refine RPowI.int (by decide) (by decide) ?_
  | (with_reducible refine g_rc2 ?_); refine RC2.int ?_
  | (with_reducible refine g_rq ?_); first
    | refine RQ.int ?_
    | refine RQ.str ?_
    | refine rq_tup rfl rfl ?_
    | refine rq_lst rfl rfl ?_
  | (with_reducible refine g_rat ?_); first
    | refine RAt.seq rfl (by first | assumption | exact at0 | exact at1 | exact at2 | exact at3 | exact at4) ?_
    | refine RAt.dct rfl rfl (by assumption) ?_
  | (with_reducible refine g_rput ?_); refine put5 rfl rfl (by omega) (by omega) ?_)
section
variable {P : Program} {w : World} {K : PySem.W.Frag} {mg : Str → Option Value} {base : Heap}
theorem ok__law_hand {f : Addr} {fd : FuncData} (gb : BI mg) (F : L2.Fun K "_law_hand" "_law_hand" (topS 23) f fd) (hm : mg "_law_hand" = some (.ref f)) (b : Binds K fd ["script"] [])  : CalV P w K mg base 1 "_law_hand" 1 spHand := by
  have ⟨m_len, m_int, m_abs, m_sum, m_tuple, m_list, m_repr, m_range, m_isi, m_all, m_max, m_min, m_enum, m_bool, m_any, m_sorted, m_zip, m_set, m_str⟩ := gb
  refine calv0 F hm b rfl sc__law_hand ?_
  rintro cdv A outer s H E its α R hr hgd0 ⟨ns, rfl, q⟩
  have hu : (bcx P w K mg base ["script", "cells", "cell"] "_law_hand" (topS 23) f cdv A outer s H E).A.units + 64 < cLine := hr.units
  have hu1 : (bcx P w K mg base ["script", "cells", "cell"] "_law_hand" (topS 23) f cdv A outer s H E).A.units + 1 < cLine := hu_of hr
  have hu65 : (bcx P w K mg base ["script", "cells", "cell"] "_law_hand" (topS 23) f cdv A outer s H E).A.units + 65 < cLine := room65 hr
  have hgd : (bcx P w K mg base ["script", "cells", "cell"] "_law_hand" (topS 23) f cdv A outer s H E).A.guards = some [] := hgd0
  have hN : (bcx P w K mg base ["script", "cells", "cell"] "_law_hand" (topS 23) f cdv A outer s H E).N.Nodup := sc__law_hand.nd
  have hnx : NoX (bcx P w K mg base ["script", "cells", "cell"] "_law_hand" (topS 23) f cdv A outer s H E) := ⟨rfl, fun _ _ z => z⟩
  refine vb_cons (vs_setLc (i := 1) (own := [("cell", 2)]) rfl hN rfl rfl rfl (sw_true rfl rfl rfl (by decide +kernel)) (blkOk_by (N := ["script", "cells", "cell"]) (sc := defScope (topS 23)) (by decide +kernel)) (tb_name hN rfl (.inl rfl)) (pin1 rfl) (vi_list ?_))
  refine ve_scr (n := 60) ?_
  repeat' ac_rfl
  · exact .yes (ve_int ⟨rfl, rfl⟩)
  refine ⟨ns, rfl, ⟨_, _, rfl, rfl, ?_⟩⟩
  refine lc_mI (ns.take 60) D.int (fun n => (n.natAbs : Int) % 10 ^ 36) rfl (by rw [List.length_take]; omega) rfl (fun n hn => ⟨_, rfl, fun s H C cl fp => ?_⟩) ?_
  · repeat' ac_rfl
  refine st_n (vb_frz 1 rfl rfl (vb_cons ?_))
  repeat' ac_rfl
  exact q _ _
theorem ok__law_draw {f : Addr} {fd : FuncData} (gb : BI mg) (F : L2.Fun K "_law_draw" "_law_draw" (topS 24) f fd) (hm : mg "_law_draw" = some (.ref f)) (b : Binds K fd ["hand", "many"] [])  : CalV P w K mg base 1 "_law_draw" 2 spDraw := by
  have ⟨m_len, m_int, m_abs, m_sum, m_tuple, m_list, m_repr, m_range, m_isi, m_all, m_max, m_min, m_enum, m_bool, m_any, m_sorted, m_zip, m_set, m_str⟩ := gb
  refine calv0 F hm b rfl sc__law_draw ?_
  rintro cdv A outer s H E its α R hr hgd0 ⟨cs, p, q, r, u, many, rfl, hk, h0, h1, q'⟩
  have hu : (bcx P w K mg base ["hand", "many", "number", "cell", "digit"] "_law_draw" (topS 24) f cdv A outer s H E).A.units + 64 < cLine := hr.units
  have hu1 : (bcx P w K mg base ["hand", "many", "number", "cell", "digit"] "_law_draw" (topS 24) f cdv A outer s H E).A.units + 1 < cLine := hu_of hr
  have hu65 : (bcx P w K mg base ["hand", "many", "number", "cell", "digit"] "_law_draw" (topS 24) f cdv A outer s H E).A.units + 65 < cLine := room65 hr
  have hgd : (bcx P w K mg base ["hand", "many", "number", "cell", "digit"] "_law_draw" (topS 24) f cdv A outer s H E).A.guards = some [] := hgd0
  have hN : (bcx P w K mg base ["hand", "many", "number", "cell", "digit"] "_law_draw" (topS 24) f cdv A outer s H E).N.Nodup := sc__law_draw.nd
  have hnx : NoX (bcx P w K mg base ["hand", "many", "number", "cell", "digit"] "_law_draw" (topS 24) f cdv A outer s H E) := ⟨rfl, fun _ _ z => z⟩
  refine vb_cut (fun Γ => ∃ (cs : List Int) (p q r u : Int), 0 ≤ p ∧ ∃ x, Γ = [some (.o (.l (hD cs p q r u))), some (.d (.int many)), none, x, none]) (vs_if ?_) ?_
  · repeat' ac_rfl
    · obtain ⟨c, hc⟩ := at_ints hk ‹p < _›
      repeat' ac_rfl
      · exact ⟨_, _, _, _, _, by show 0 ≤ p + 1; omega, _, rfl⟩
      · exact ⟨_, _, _, _, _, by show 0 ≤ p + 1; omega, _, rfl⟩
    · exact ⟨_, _, _, _, _, hk, _, rfl⟩
    · exact ⟨_, _, _, _, _, hk, _, rfl⟩
  · rintro Γ1 ⟨cs, p, q, r, u, hk2, x, rfl⟩
    repeat' ac_rfl
    · refine rt_d ?_
      exact q' _ _ _ _ _ _ (Int.emod_nonneg _ (by omega)) (Int.emod_lt_of_pos _ h0) hk2
    · refine rt_d ?_
      exact q' _ _ _ _ _ _ (Int.emod_nonneg _ (by omega)) (Int.emod_lt_of_pos _ h0) hk2
theorem ok__law_some {f : Addr} {fd : FuncData} (gb : BI mg) (F : L2.Fun K "_law_some" "_law_some" (topS 25) f fd) (hm : mg "_law_some" = some (.ref f)) (b : Binds K fd ["hand", "things"] []) (c1 : CalV P w K mg base 1 "_law_draw" 2 spDraw) : CalV P w K mg base 2 "_law_some" 2 spSome := by
  have ⟨m_len, m_int, m_abs, m_sum, m_tuple, m_list, m_repr, m_range, m_isi, m_all, m_max, m_min, m_enum, m_bool, m_any, m_sorted, m_zip, m_set, m_str⟩ := gb
  refine calv0 F hm b rfl sc__law_some ?_
  rintro cdv A outer s H E its α R hr hgd0 ⟨cs, p, q, r, u, xs, rfl, hp, hx, hl, q'⟩
  have hu : (bcx P w K mg base ["hand", "things"] "_law_some" (topS 25) f cdv A outer s H E).A.units + 64 < cLine := hr.units
  have hu1 : (bcx P w K mg base ["hand", "things"] "_law_some" (topS 25) f cdv A outer s H E).A.units + 1 < cLine := hu_of hr
  have hu65 : (bcx P w K mg base ["hand", "things"] "_law_some" (topS 25) f cdv A outer s H E).A.units + 65 < cLine := room65 hr
  have hgd : (bcx P w K mg base ["hand", "things"] "_law_some" (topS 25) f cdv A outer s H E).A.guards = some [] := hgd0
  have hN : (bcx P w K mg base ["hand", "things"] "_law_some" (topS 25) f cdv A outer s H E).N.Nodup := sc__law_some.nd
  have hnx : NoX (bcx P w K mg base ["hand", "things"] "_law_some" (topS 25) f cdv A outer s H E) := ⟨rfl, fun _ _ z => z⟩
  have hx1 : 0 < xs.length := List.length_pos_iff.mpr hx
  refine vb_cons ?_
  repeat' ac_rfl
  refine ⟨cs, p, q, r, u, (xs.length : Nat), rfl, hp, by omega, by omega, fun d cs p q r u h0 h1 hp' => ?_⟩
  obtain ⟨x, hat, hm⟩ := at_any h0 h1
  repeat' ac_rfl
  exact q' x _ _ _ _ _ hm hp'
theorem ok__law_goal {f : Addr} {fd : FuncData} (gb : BI mg) (F : L2.Fun K "_law_goal" "_law_goal" (topS 27) f fd) (hm : mg "_law_goal" = some (.ref f)) (b : Binds K fd ["lengths", "order"] [])  : CalV P w K mg base 1 "_law_goal" 2 spLGoal := by
  have ⟨m_len, m_int, m_abs, m_sum, m_tuple, m_list, m_repr, m_range, m_isi, m_all, m_max, m_min, m_enum, m_bool, m_any, m_sorted, m_zip, m_set, m_str⟩ := gb
  refine calv0 F hm b rfl sc__law_goal ?_
  rintro cdv A outer s H E its α R hr hgd0 ⟨ls, os, rfl, okl, ok, q⟩
  have hu : (bcx P w K mg base ["lengths", "order", "length", "at", "piece", "goal", "begins", "laid", "step"] "_law_goal" (topS 27) f cdv A outer s H E).A.units + 64 < cLine := hr.units
  have hu1 : (bcx P w K mg base ["lengths", "order", "length", "at", "piece", "goal", "begins", "laid", "step"] "_law_goal" (topS 27) f cdv A outer s H E).A.units + 1 < cLine := hu_of hr
  have hu65 : (bcx P w K mg base ["lengths", "order", "length", "at", "piece", "goal", "begins", "laid", "step"] "_law_goal" (topS 27) f cdv A outer s H E).A.units + 65 < cLine := room65 hr
  have hgd : (bcx P w K mg base ["lengths", "order", "length", "at", "piece", "goal", "begins", "laid", "step"] "_law_goal" (topS 27) f cdv A outer s H E).A.guards = some [] := hgd0
  have hN : (bcx P w K mg base ["lengths", "order", "length", "at", "piece", "goal", "begins", "laid", "step"] "_law_goal" (topS 27) f cdv A outer s H E).N.Nodup := sc__law_goal.nd
  have hnx : NoX (bcx P w K mg base ["lengths", "order", "length", "at", "piece", "goal", "begins", "laid", "step"] "_law_goal" (topS 27) f cdv A outer s H E) := ⟨rfl, fun _ _ z => z⟩
  have hl6 := okl.len
  have hlen := ok.len
  refine vb_cons (vs_unp3 (i := 6) (j := 7) (l := 3) rfl hN rfl rfl rfl (.inl rfl) (.inr rfl) (.inl rfl) rfl rfl rfl ?_)
  repeat' ac_rfl
  refine vs_for (tf_name (i := 2) hN rfl (.inl rfl)) (fun i hi => by simp at hi; subst hi; rfl) (vi_tup ?_) rfl
  repeat' ac_rfl
  refine ⟨_, ls.map D.int, rfl, .inl rfl, fun i Γ => ∃ x2, ∃ at' : Int, ∃ bl : List D, Γ = [some (.d (tI ls)), some (.d (tI os)), x2, some (.d (.int at')), none, none, some (.o (.l bl)), some (.o (.k [])), none] ∧ bl.length ≤ i, ⟨none, 0, [], rfl, Nat.le_refl _⟩, ?_, ?_⟩
  · rintro i x Γ' hx ⟨x2, at', bl, rfl, hbl⟩
    obtain ⟨l, hl, rfl⟩ := map_get hx
    have hi : i < ls.length := (List.getElem?_eq_some_iff.mp hl).1
    refine ⟨_, rfl, vb_cons ?_⟩
    repeat' ac_rfl
    refine rapp_mk rfl (by omega) ?_
    repeat' ac_rfl
    exact ⟨_, _, _, rfl, by simp; omega⟩
  rintro Γ' ⟨x2, at', bl, rfl, hbl⟩
  repeat' ac_rfl
  refine vs_for (tf_name (i := 4) hN rfl (.inr rfl)) (fun i hi => by simp at hi; subst hi; rfl) (vi_tup ?_) rfl
  repeat' ac_rfl
  refine ⟨_, os.map D.int, rfl, .inl rfl, fun i Γ => ∃ kvs x4, Γ = [some (.d (tI ls)), some (.d (tI os)), x2, some (.d (.int (stAt ls os i))), x4, none, some (.o (.l bl)), some (.o (.k kvs)), none] ∧ kvs.length ≤ i ∧ ∀ (j : Nat) p, j < i → os[j]? = some p → dv kvs (.inl p) = some (.int (stAt ls os j)), ⟨[], none, rfl, Nat.le_refl _, fun j p h => by omega⟩, ?_, ?_⟩
  · rintro i x Γ' hx ⟨kvs, y, rfl, hl, hd⟩
    obtain ⟨n, hn, rfl⟩ := map_get hx
    have hi : i < os.length := (List.getElem?_eq_some_iff.mp hn).1
    have hb := ok.lo n (List.mem_of_getElem? hn)
    have hat := at_len hb.1 hb.2
    refine ⟨_, rfl, vb_cons (vs_dput hu1 ?_)⟩
    repeat' ac_rfl
    refine ⟨7, kvs, .int n, .inl n, _, rfl, rfl, rfl, rfl, rfl, by have := ok.len; omega, ?_⟩
    repeat' ac_rfl
    have e := stAt_succ (ls := ls) hn
    refine ⟨_, _, by rw [e]; rfl, Nat.le_trans dp_length (by omega), fun j p hj hp => ?_⟩
    rw [dv_dp]
    by_cases ej : j = i
    · subst ej
      rw [hn] at hp; cases hp
      rw [if_pos rfl]
    · rw [if_neg (fun z => nd_ne ok.nd hp hn ej (by cases z; rfl))]
      exact hd j p (by omega) hp
  rintro Γ' ⟨kvs, y, rfl, hl, hd⟩
  have hk : StOk ls os kvs := fun j p hp => hd j p (by have := (List.getElem?_eq_some_iff.mp hp).1; simpa using this) hp
  generalize stAt ls os (os.map D.int).length = at2
  repeat' ac_rfl
  refine vs_for (tf_name (i := 4) hN rfl (.inr rfl)) (fun i hi => by simp at hi; subst hi; rfl) (vi_rg1 rfl m_range ?_) rfl
  repeat' ac_rfl
  refine ⟨_, rfl, by omega, by simp; omega, fun i Γ => ∃ x4, Γ = [some (.d (tI ls)), some (.d (tI os)), x2, some (.d (.int at2)), x4, some (.o (.l ((gPre ls os i).map D.int))), some (.o (.l bl)), some (.o (.k kvs)), none], ⟨_, rfl⟩, ?_, ?_⟩
  · rintro i x Γ' hx ⟨x4, rfl⟩
    obtain ⟨rfl, hi⟩ := rg_get hx
    rw [List.length_map] at hi
    have hi2 : i < ls.length := by omega
    have hl : ls[i]? = some ls[i] := List.getElem?_eq_getElem hi2
    generalize ls[i] = l at hl
    have hb := okl.le (List.mem_of_getElem? hl)
    have hd2 := hk.get ok (p := (i : Nat)) (by omega) (by omega)
    have hat := at_len (ls := ls) (n := (i : Nat)) (by omega) (by omega)
    rw [lenAt_get hl] at hat
    have hgl := gPre_len ls os i okl.pos (by omega)
    have hsum := take_sum_le ls i okl.pos
    have hs := okl.sum
    refine ⟨_, rfl, vb_cons ?_⟩
    repeat' ac_rfl
    refine ve_lc (own := [("step", 8)]) rfl hN (blkOk_by (N := ["lengths", "order", "length", "at", "piece", "goal", "begins", "laid", "step"]) (sc := defScope (topS 27)) (by decide +kernel)) (tb_name hN rfl (.inl rfl)) (pin1 rfl) (vi_rg1 rfl m_range ?_)
    repeat' ac_rfl
    refine ⟨l, rfl, by omega, by omega, ?_⟩
    refine lc_mI (rgI 0 l) D.int (fun at' => stOf ls os i + at') (rgD_I l) (by rw [rgI_length]; omega) rfl (fun n hn => ⟨_, rfl, fun s H C cl fp => ?_⟩) ?_
    · repeat' ac_rfl
    refine RPlus.lst rfl rfl (by simp only [List.length_map, rgI_length, sizeLine_eq]; omega) ?_
    repeat' ac_rfl
    exact ⟨_, by rw [gPre_succ hl, List.map_append]; rfl⟩
  · rintro Γ' ⟨x4, rfl⟩
    repeat' ac_rfl
    have e : (rgD ((ls.map D.int).length : Nat)).length = ls.length := by rw [rgD_I, List.length_map, rgI_length, List.length_map]; omega
    rw [e, gPre_all]
    exact q
end
end K80
set_option Elab.async false
set_option linter.all false
set_option maxRecDepth 100000
set_option maxHeartbeats 4000000
namespace K80
open PySem PySem.Spec PyProof.Rows L2 AV LB
local macro_rules | `(tactic| ac_rfl) => `(tactic| first
  | (with_reducible refine g_ve ?_); first
    | (with_reducible refine g_name ?_); first
      | refine vv 0 rfl ?_
      | refine vv 1 rfl ?_
      | refine vv 2 rfl ?_
      | refine vv 3 rfl ?_
      | refine vv 4 rfl ?_
      | refine vv 5 rfl ?_
      | refine vv 6 rfl ?_
      | refine vv 7 rfl ?_
      | refine vv 8 rfl ?_
      | refine vv 9 rfl ?_
      | refine vv 10 rfl ?_
      | refine vv 11 rfl ?_
      | refine vv 12 rfl ?_
      | refine vv 13 rfl ?_
      | refine vv 14 rfl ?_
      | refine vv 15 rfl ?_
      | refine ve_ty "int" rfl (by assumption) bb_int ?_
      | refine ve_ty "tuple" rfl (by assumption) bb_tuple ?_
      | refine ve_ty "bool" rfl (by assumption) bb_bool ?_
      | refine ve_ty "list" rfl (by assumption) bb_list ?_
      | refine ve_ty "str" rfl (by assumption) bb_str ?_
      | refine ve_gint rfl (by assumption) (by decide) ?_
      | refine ve_gref rfl (by assumption) (by decide) ?_
    | (with_reducible refine g_con ?_); with_reducible first
      | refine ve_int ?_
      | refine ve_bl ?_
      | refine ve_non ?_
      | refine ve_str ?_
    | (with_reducible refine g_bin ?_); with_reducible first
      | refine ve_plus ?_
      | refine ve_minus ?_
      | refine ve_times ?_
      | refine ve_fdiv ?_
      | refine ve_mod ?_
      | refine ve_pow ?_
    | (with_reducible refine g_cmp ?_); first
      | (with_reducible refine ve_eq (by assumption) ?_)
      | (with_reducible refine ve_ne (by assumption) ?_)
      | (with_reducible refine ve_lt ?_)
      | (with_reducible refine ve_le ?_)
      | (with_reducible refine ve_gt ?_)
      | (with_reducible refine ve_ge ?_)
    | (with_reducible refine ve_ch_ll ?_)
    | (with_reducible refine ve_ch_lt ?_)
    | (with_reducible refine g_call "len" ?_); refine ve_lenA rfl (by assumption) ?_
    | (with_reducible refine g_call "abs" ?_); refine ve_abs rfl (by assumption) ?_
    | (with_reducible refine g_call "int" ?_); refine ve_int1 rfl (by assumption) ?_
    | (with_reducible refine g_call "sum" ?_); refine ve_sum rfl (by assumption) ?_
    | (with_reducible refine g_ofrg "tuple" ?_); refine ve_tupRg rfl (by assumption) rfl (by assumption) ?_
    | (with_reducible refine g_ofrg "list" ?_); refine ve_listRg rfl (by assumption) rfl (by assumption) ?_
    | (with_reducible refine g_call "tuple" ?_); refine ve_tupleOf rfl (by assumption) ?_
    | (with_reducible refine g_call "list" ?_); refine ve_listOf rfl (by assumption) ?_
    | (with_reducible refine g_call "repr" ?_); refine ve_repr (by assumption) (by assumption) rfl (by assumption) ?_
    | (with_reducible refine g_call "all" ?_); refine ve_all rfl (by assumption) ?_
    | (with_reducible refine g_call "any" ?_); refine ve_any rfl (by assumption) ?_
    | (with_reducible refine g_two "min" ?_); refine ve_min2 rfl (by assumption) ?_
    | (with_reducible refine g_two "max" ?_); refine ve_max2 rfl (by assumption) ?_
    | (with_reducible refine g_one "max" ?_); refine ve_maxL (by assumption) rfl (by assumption) ?_
    | (with_reducible refine g_one "min" ?_); refine ve_minL (by assumption) rfl (by assumption) ?_
    | (with_reducible refine g_isi "int" ?_); refine ve_isi "int" rfl (by assumption) ?_
    | (with_reducible refine g_isi "bool" ?_); refine ve_isi "bool" rfl (by assumption) ?_
    | (with_reducible refine g_isi "tuple" ?_); refine ve_isi "tuple" rfl (by assumption) ?_
    | (with_reducible refine g_isi "list" ?_); refine ve_isi "list" rfl (by assumption) ?_
    | (with_reducible refine g_isi "str" ?_); refine ve_isi "str" rfl (by assumption) ?_
    | (with_reducible refine g_meth "append" ?_); refine ve_append ?_
    | (with_reducible refine g_meth "extend" ?_); refine ve_extend ?_
    | (with_reducible refine g_meth "pop" ?_); refine ve_popAt ?_
    | (with_reducible refine g_meth "count" ?_); refine ve_count (by assumption) ?_
    | (with_reducible refine g_meth "index" ?_); refine ve_index (by assumption) ?_
    | (with_reducible refine g_calln ?_); refine ve_c (by assumption) (by assumption) (by assumption) rfl rfl ?_
    | (with_reducible refine g_calln ?_); refine ve_mk (by assumption) (by assumption) (by assumption) rfl ?_
    | (with_reducible refine g_attr ?_); refine ve_fld ?_
    | (with_reducible refine ve_rev ?_)
    | refine ve_at (by assumption) ?_
    | (with_reducible refine ve_if ?_)
    | (with_reducible refine ve_tup ?_)
    | (with_reducible refine ve_lst ?_)
    | (with_reducible refine ve_dnewK ?_)
    | (with_reducible refine ve_not' ?_)
    | (with_reducible refine ve_neg' ?_)
    | (with_reducible refine ve_and' ?_)
    | (with_reducible refine ve_or' ?_)
    | (with_reducible refine ve_one ?_)
  | (with_reducible refine g_vt ?_); first
    | (with_reducible refine g_tcmp ?_); first
      | (with_reducible refine vt_eq (by assumption) ?_)
      | (with_reducible refine vt_ne (by assumption) ?_)
      | (with_reducible refine vt_lt ?_)
      | (with_reducible refine vt_le ?_)
      | (with_reducible refine vt_gt ?_)
      | (with_reducible refine vt_ge ?_)
    | (with_reducible refine vt_ch_ll ?_)
    | (with_reducible refine vt_ch_lt ?_)
    | (with_reducible refine vt_not ?_)
    | (with_reducible refine VW.vt (vw_and ?_))
    | (with_reducible refine VW.vt (vw_or ?_))
    | refine vt_bl ?_
  | (with_reducible refine g_vw ?_); with_reducible first
    | refine vw_and ?_
    | refine vw_or ?_
    | refine vw_and1 ?_
    | refine vw_or1 ?_
  | (with_reducible refine g_va ?_); first
    | (with_reducible refine va_nil ?_)
    | refine va_cons ?_
  | (with_reducible refine g_vb ?_); with_reducible first
    | refine vb_nil ?_
    | refine vb_cons ?_
  | (with_reducible refine g_vs ?_); first
    | (with_reducible refine g_set ?_); first
      | refine vs_set (i := 0) (by assumption) rfl (by first | exact Or.inl rfl | exact Or.inr rfl) rfl ?_
      | refine vs_set (i := 1) (by assumption) rfl (by first | exact Or.inl rfl | exact Or.inr rfl) rfl ?_
      | refine vs_set (i := 2) (by assumption) rfl (by first | exact Or.inl rfl | exact Or.inr rfl) rfl ?_
      | refine vs_set (i := 3) (by assumption) rfl (by first | exact Or.inl rfl | exact Or.inr rfl) rfl ?_
      | refine vs_set (i := 4) (by assumption) rfl (by first | exact Or.inl rfl | exact Or.inr rfl) rfl ?_
      | refine vs_set (i := 5) (by assumption) rfl (by first | exact Or.inl rfl | exact Or.inr rfl) rfl ?_
      | refine vs_set (i := 6) (by assumption) rfl (by first | exact Or.inl rfl | exact Or.inr rfl) rfl ?_
      | refine vs_set (i := 7) (by assumption) rfl (by first | exact Or.inl rfl | exact Or.inr rfl) rfl ?_
      | refine vs_set (i := 8) (by assumption) rfl (by first | exact Or.inl rfl | exact Or.inr rfl) rfl ?_
      | refine vs_set (i := 9) (by assumption) rfl (by first | exact Or.inl rfl | exact Or.inr rfl) rfl ?_
      | refine vs_set (i := 10) (by assumption) rfl (by first | exact Or.inl rfl | exact Or.inr rfl) rfl ?_
      | refine vs_set (i := 11) (by assumption) rfl (by first | exact Or.inl rfl | exact Or.inr rfl) rfl ?_
      | refine vs_set (i := 12) (by assumption) rfl (by first | exact Or.inl rfl | exact Or.inr rfl) rfl ?_
      | refine vs_set (i := 13) (by assumption) rfl (by first | exact Or.inl rfl | exact Or.inr rfl) rfl ?_
      | refine vs_set (i := 14) (by assumption) rfl (by first | exact Or.inl rfl | exact Or.inr rfl) rfl ?_
      | refine vs_set (i := 15) (by assumption) rfl (by first | exact Or.inl rfl | exact Or.inr rfl) rfl ?_
    | (with_reducible refine g_aug ?_); first
      | refine vs_add 0 (by assumption) rfl (by first | exact Or.inl rfl | exact Or.inr rfl) rfl rfl ?_
      | refine vs_add 1 (by assumption) rfl (by first | exact Or.inl rfl | exact Or.inr rfl) rfl rfl ?_
      | refine vs_add 2 (by assumption) rfl (by first | exact Or.inl rfl | exact Or.inr rfl) rfl rfl ?_
      | refine vs_add 3 (by assumption) rfl (by first | exact Or.inl rfl | exact Or.inr rfl) rfl rfl ?_
      | refine vs_add 4 (by assumption) rfl (by first | exact Or.inl rfl | exact Or.inr rfl) rfl rfl ?_
      | refine vs_add 5 (by assumption) rfl (by first | exact Or.inl rfl | exact Or.inr rfl) rfl rfl ?_
      | refine vs_add 6 (by assumption) rfl (by first | exact Or.inl rfl | exact Or.inr rfl) rfl rfl ?_
      | refine vs_add 7 (by assumption) rfl (by first | exact Or.inl rfl | exact Or.inr rfl) rfl rfl ?_
      | refine vs_add 8 (by assumption) rfl (by first | exact Or.inl rfl | exact Or.inr rfl) rfl rfl ?_
      | refine vs_add 9 (by assumption) rfl (by first | exact Or.inl rfl | exact Or.inr rfl) rfl rfl ?_
      | refine vs_add 10 (by assumption) rfl (by first | exact Or.inl rfl | exact Or.inr rfl) rfl rfl ?_
      | refine vs_add 11 (by assumption) rfl (by first | exact Or.inl rfl | exact Or.inr rfl) rfl rfl ?_
      | refine vs_add 12 (by assumption) rfl (by first | exact Or.inl rfl | exact Or.inr rfl) rfl rfl ?_
      | refine vs_add 13 (by assumption) rfl (by first | exact Or.inl rfl | exact Or.inr rfl) rfl rfl ?_
      | refine vs_add 14 (by assumption) rfl (by first | exact Or.inl rfl | exact Or.inr rfl) rfl rfl ?_
      | refine vs_add 15 (by assumption) rfl (by first | exact Or.inl rfl | exact Or.inr rfl) rfl rfl ?_
    | (with_reducible refine g_fset ?_); refine vs_fld (i := 0) rfl (.inl rfl) (by decide) (by decide) ?_
    | (with_reducible refine g_put ?_); refine vs_put ?_
    | (with_reducible refine vs_ife ?_)
    | refine vs_ret ?_
    | refine vs_expr ?_
    | (with_reducible refine vs_pass ?_)
  | (with_reducible refine g_vps ?_); first
    | (with_reducible refine vps_nil ?_)
    | refine vps_cons ?_
  | (with_reducible refine g_nx ?_); first
    | refine vb_nil ?_
    | refine vb_cons ?_
  | (with_reducible refine g_rt ?_); first
    | refine rt_d ?_
    | refine rt_n ?_
    | refine rt_s rfl rfl ?_
  | (with_reducible refine g_stored ?_); first
    | refine st_d ?_
    | refine st_n ?_
  | (with_reducible refine g_sa ?_); first
    | refine sa_nil ?_
    | refine sa_d ?_
    | refine sa_n ?_
  | (with_reducible refine g_nos ?_); first
    | exact noS_d
    | exact noS_n
  | (with_reducible refine g_len ?_); rfl
  | (with_reducible refine g_pmake ?_); first
    | refine pmake_mk (so0 rfl) ?_
    | refine pmake_mk (so1 rfl rfl) ?_
  | (with_reducible refine g_pcall ?_); first
    | refine pcall_mk (so0 rfl) ?_
    | refine pcall_mk (so1 rfl rfl) ?_
    | refine pcall_mk (so2 rfl (by decide) rfl rfl) ?_
  | (with_reducible refine g_prg ?_); refine prg_mk (by omega) (by omega) ?_
  | (with_reducible refine g_pfld ?_); refine pfld_mk (by assumption) (by assumption) rfl ?_
  | (with_reducible refine g_pfst ?_); refine pfst_mk rfl (by assumption) (by assumption) (Nat.le_of_ble_eq_true rfl) ?_
  | (with_reducible refine g_plenA ?_); first
    | refine PLen.seq rfl ?_
    | refine PLen.dct rfl ?_
  | (with_reducible refine g_pbs ?_); refine pbs_mk rfl ?_
  | (with_reducible refine g_ptup ?_); first
    | refine ptupL rfl ?_
    | refine ptupT rfl ?_
  | (with_reducible refine g_plst ?_); refine plst_mk rfl ?_
  | (with_reducible refine g_psum ?_); refine psum_mk rfl ?_
  | (with_reducible refine g_prev ?_); first
    | refine prev_lst rfl ?_
    | refine prev_tup rfl ?_
    | refine PRevA.lst rfl ?_
    | refine PRevA.tup rfl ?_
  | (with_reducible refine g_pbo ?_); refine PBo.mk ?_ ?_
  | (with_reducible refine g_pneg ?_); refine PNeg.mk ?_
  | (with_reducible refine g_rch ?_); refine RCh.mk ?_ ?_
  | (with_reducible refine g_pi2 ?_); refine pi2_mk ?_
  | (with_reducible refine g_pi1 ?_); refine pi1_mk ?_
  | (with_reducible refine g_pisi ?_); refine pisi_mk rfl rfl (by first | exact kit_t (by decide) | exact kit_f (by decide)) ?_
  | (with_reducible refine g_tl ?_); refine tl_mk rfl
  | (with_reducible refine g_tls ?_); exact ⟨_, rfl⟩
  | (with_reducible refine g_rcnt ?_); refine rcntB rfl ?_
  | (with_reducible refine g_rds ?_); first
    | refine rds1 ?_
    | refine rds2 ?_
    | refine rds3 ?_
    | refine rds4 ?_
    | refine rds5 ?_
    | refine rds0 ?_
    | refine rds6 ?_
  | (with_reducible refine g_vbx ?_); with_reducible first
    | refine vbx_nil ?_
    | refine vbx_cons ?_
  | (with_reducible refine g_vsx ?_); first
    | (with_reducible refine g_raise ?_); refine vsx_raise rfl (by assumption) (by assumption) rfl ?_
    | (with_reducible refine g_ifx ?_); (with_reducible refine vsx_if (by assumption) ?_)
    | (with_reducible refine g_exprx ?_); refine vsx_expr ?_
    | (with_reducible refine vsx_of (by assumption) ?_)
  | (with_reducible refine g_vex ?_); first
    | refine vex_c (by assumption) (by assumption) (by assumption) (by assumption) rfl rfl ?_
    | (with_reducible refine vex_of (by assumption) ?_)
  | (with_reducible refine g_pcx ?_); first
    | refine pcx1 ?_
    | refine pcx2 ?_
    | refine pcx3 ?_
  | (with_reducible exact ft_)
  | (with_reducible exact tf_)
  | (with_reducible refine tt_ ?_)
  | (with_reducible refine ff_ ?_)
  | (with_reducible refine And.intro ?_ ?_)
  | (with_reducible refine g_qb ?_)
  | (with_reducible intro hh); (try simp only [id, Bool.not_true, Bool.not_false, decide_eq_true_eq, decide_eq_false_iff_not, Bool.not_eq_true', Bool.not_eq_false', reduceCtorEq, not_true_eq_false] at hh)
  | (with_reducible refine g_rplus ?_); refine RPlus.int ?_
  | (with_reducible refine g_rsub ?_); refine RSub.int ?_
  | (with_reducible refine g_rtimes ?_); refine RTimes.int (by first | exact .inl ⟨by omega, by omega⟩ | exact .inr ⟨by omega, by omega⟩) ?_
  | (with_reducible refine g_rdiv ?_); refine RDivI.int (by omega) (by omega) ?_
  | (with_reducible refine g_rmod ?_); refine RModI.int (by first | omega | decide) ?_
  | (with_reducible refine g_rpow ?_); refine RPowI.int (by decide) (by decide) ?_
  | (with_reducible refine g_rc2 ?_); refine RC2.int ?_
  | (with_reducible refine g_rq ?_); first
    | refine RQ.int ?_
    | refine RQ.str ?_
    | refine rq_tup rfl rfl ?_
    | refine rq_lst rfl rfl ?_
  | (with_reducible refine g_rat ?_); first
    | refine RAt.seq rfl (by first | assumption | exact at0 | exact at1 | exact at2 | exact at3 | exact at4) ?_
    | refine RAt.dct rfl rfl (by assumption) ?_
  | (with_reducible refine g_rput ?_); refine put5 rfl rfl (by omega) (by omega) ?_)
section
variable {P : Program} {w : World} {K : PySem.W.Frag} {mg : Str → Option Value} {base : Heap}
theorem ok__law_order {f : Addr} {fd : FuncData} (gb : BI mg) (F : L2.Fun K "_law_order" "_law_order" (topS 28) f fd) (hm : mg "_law_order" = some (.ref f)) (b : Binds K fd ["hand", "many"] []) (c1 : CalV P w K mg base 1 "_law_draw" 2 spDraw) : CalV P w K mg base 2 "_law_order" 2 spOrder := by
  have ⟨m_len, m_int, m_abs, m_sum, m_tuple, m_list, m_repr, m_range, m_isi, m_all, m_max, m_min, m_enum, m_bool, m_any, m_sorted, m_zip, m_set, m_str⟩ := gb
  refine calv0 F hm b rfl sc__law_order ?_
  rintro cdv A outer s H E its α R hr hgd0 ⟨cs, p, q, r, u, k, rfl, hp, hk1, hk6, q'⟩
  have hu : (bcx P w K mg base ["hand", "many", "way", "left", "found", "cut"] "_law_order" (topS 28) f cdv A outer s H E).A.units + 64 < cLine := hr.units
  have hu1 : (bcx P w K mg base ["hand", "many", "way", "left", "found", "cut"] "_law_order" (topS 28) f cdv A outer s H E).A.units + 1 < cLine := hu_of hr
  have hu65 : (bcx P w K mg base ["hand", "many", "way", "left", "found", "cut"] "_law_order" (topS 28) f cdv A outer s H E).A.units + 65 < cLine := room65 hr
  have hgd : (bcx P w K mg base ["hand", "many", "way", "left", "found", "cut"] "_law_order" (topS 28) f cdv A outer s H E).A.guards = some [] := hgd0
  have hN : (bcx P w K mg base ["hand", "many", "way", "left", "found", "cut"] "_law_order" (topS 28) f cdv A outer s H E).N.Nodup := sc__law_order.nd
  have hnx : NoX (bcx P w K mg base ["hand", "many", "way", "left", "found", "cut"] "_law_order" (topS 28) f cdv A outer s H E) := ⟨rfl, fun _ _ z => z⟩
  refine vb_cons (vs_par3 (i := 2) (j := 3) (l := 4) rfl hN rfl rfl rfl (by decide) (by decide) (by decide) rfl rfl rfl rfl rfl rfl ?_)
  repeat' ac_rfl
  refine ⟨cs, p, q, r, u, 4, rfl, hp, by omega, by omega, fun way cs p q r u w0 w1 hp => ?_⟩
  repeat' ac_rfl
  · exact q' _ _ _ _ _ _ (.ofPerm (List.reverse_perm _)) hp
  · refine ⟨cs, p, q, r, u, _, rfl, hp, by omega, by omega, fun c cs p q r u h0 h1 hp => ?_⟩
    obtain ⟨c, rfl⟩ : ∃ n : Nat, c = n := ⟨c.toNat, by omega⟩
    have hl := rgI_length 0 k
    repeat' ac_rfl
    refine ve_sl (i := none) (j := some ((c + 1 : Nat) : Int)) ?_
    repeat' ac_rfl
    · exact .no
    · exact .yes (vv 5 rfl ⟨by show Rs.d (.int (1 + (c : Int))) = _; congr 2; omega, rfl⟩)
    refine .inl ⟨_, rfl, ?_⟩
    rw [cut_to]
    repeat' ac_rfl
    refine ve_sl (i := some ((c + 1 : Nat) : Int)) (j := none) ?_
    repeat' ac_rfl
    · exact .yes (vv 5 rfl ⟨by show Rs.d (.int (1 + (c : Int))) = _; congr 2; omega, rfl⟩)
    · exact .no
    refine .inl ⟨_, rfl, ?_⟩
    rw [cut_from]
    repeat' ac_rfl
    refine RPlus.lst rfl rfl (by simp only [List.length_map, List.length_reverse, List.length_take, List.length_drop, sizeLine_eq]; omega) ?_
    repeat' ac_rfl
    rw [← List.map_append]
    refine q' _ _ _ _ _ _ (.ofPerm (((List.reverse_perm _).append (List.reverse_perm _)).trans ?_)) hp
    rw [List.take_append_drop]
  all_goals (
    refine vs_while (fun m Γ => ∃ (lf fd cs : List Int) (p q r u : Int), Γ = [some (.o (.l (hD cs p q r u))), some (.d (.int (k : Nat))), some (.d (.int way)), some (.o (.l (lf.map D.int))), some (.o (.l (fd.map D.int))), none] ∧ lf.length = m ∧ (fd ++ lf).Perm (rgI 0 k) ∧ 0 ≤ p) k ⟨rgI 0 k, [], _, _, _, _, _, rfl, by rw [rgI_length]; omega, List.Perm.refl _, hp⟩ ?_
    rintro m Γ' ⟨lf, fd, cs, p, q, r, u, rfl, hm, hpm, hp⟩
    have hlen := hpm.length_eq
    rw [List.length_append, rgI_length] at hlen
    repeat' ac_rfl
    refine rq_lst (ms := []) rfl rfl ?_
    repeat' ac_rfl
    · have hne : lf ≠ [] := by simpa using ‹_›
      have hl0 : 0 < lf.length := List.length_pos_iff.mpr hne
      refine ⟨cs, p, q, r, u, _, rfl, hp, by simp; omega, by simp; omega, fun d cs p q r u h0 h1 hp => ?_⟩
      rw [List.length_map] at h1
      obtain ⟨j, rfl⟩ : ∃ n : Nat, d = n := ⟨d.toNat, by omega⟩
      have hj : lf[j]? = some lf[j] := List.getElem?_eq_getElem (by omega)
      generalize lf[j] = x at hj
      repeat' ac_rfl
      refine rpop_mk (j := j) rfl rfl (by rw [List.getElem?_map, hj]; rfl) (by simp; omega) ?_
      repeat' ac_rfl
      refine rapp_mk rfl (by simp; omega) ?_
      repeat' ac_rfl
      refine ⟨m - 1, by omega, lf.eraseIdx j, fd ++ [x], _, _, _, _, _, by rw [List.map_append, map_erase]; rfl, by rw [List.length_eraseIdx]; split <;> omega, ?_, hp⟩
      rw [List.append_assoc]
      exact ((erase_perm hj).append_left fd).trans hpm
    · have hne : lf = [] := by simpa using ‹_›
      subst hne
      repeat' ac_rfl
      rw [List.append_nil] at hpm
      exact q' _ _ _ _ _ _ (.ofPerm hpm) hp)
theorem ok__law_parts {f : Addr} {fd : FuncData} (gb : BI mg) (F : L2.Fun K "_law_parts" "_law_parts" (topS 29) f fd) (hm : mg "_law_parts" = some (.ref f)) (b : Binds K fd ["hand", "most", "pieces"] []) (c1 : CalV P w K mg base 2 "_law_draw" 2 spDraw) (c2 : CalV P w K mg base 2 "_law_some" 2 spSome) (c3 : CalV P w K mg base 2 "_law_order" 2 spOrder) : CalV P w K mg base 3 "_law_parts" 3 spParts := by
  have ⟨m_len, m_int, m_abs, m_sum, m_tuple, m_list, m_repr, m_range, m_isi, m_all, m_max, m_min, m_enum, m_bool, m_any, m_sorted, m_zip, m_set, m_str⟩ := gb
  refine calv0 F hm b rfl sc__law_parts ?_
  rintro cdv A outer s H E its α R hr hgd0 ⟨cs, p, q, r, u, most, rfl, hp, hm6, hm60, q'⟩
  have hu : (bcx P w K mg base ["hand", "most", "pieces", "many", "room", "lengths", "at", "piece"] "_law_parts" (topS 29) f cdv A outer s H E).A.units + 64 < cLine := hr.units
  have hu1 : (bcx P w K mg base ["hand", "most", "pieces", "many", "room", "lengths", "at", "piece"] "_law_parts" (topS 29) f cdv A outer s H E).A.units + 1 < cLine := hu_of hr
  have hu65 : (bcx P w K mg base ["hand", "most", "pieces", "many", "room", "lengths", "at", "piece"] "_law_parts" (topS 29) f cdv A outer s H E).A.units + 65 < cLine := room65 hr
  have hgd : (bcx P w K mg base ["hand", "most", "pieces", "many", "room", "lengths", "at", "piece"] "_law_parts" (topS 29) f cdv A outer s H E).A.guards = some [] := hgd0
  have hN : (bcx P w K mg base ["hand", "most", "pieces", "many", "room", "lengths", "at", "piece"] "_law_parts" (topS 29) f cdv A outer s H E).N.Nodup := sc__law_parts.nd
  have hnx : NoX (bcx P w K mg base ["hand", "most", "pieces", "many", "room", "lengths", "at", "piece"] "_law_parts" (topS 29) f cdv A outer s H E) := ⟨rfl, fun _ _ z => z⟩
  refine vb_cons ?_
  repeat' ac_rfl
  refine ⟨cs, p, q, r, u, _, rfl, hp, by omega, by omega, fun d cs p q r u d0 d1 hp => ?_⟩
  obtain ⟨k, hk⟩ : ∃ n : Nat, 1 + d = n := ⟨(1 + d).toNat, by omega⟩
  have hk1 : 1 ≤ k := by omega
  have hk6 : k ≤ 6 := by omega
  simp only [hk]
  repeat' ac_rfl
  simp only [hk]
  refine ⟨cs, p, q, r, u, _, rfl, hp, by simp, by simp, fun x cs p q r u hx hp => ?_⟩
  obtain ⟨room, rfl, hr1, hr2⟩ : ∃ room : Int, x = .int room ∧ (k : Int) ≤ room ∧ room ≤ most := by
    have hx2 : x = .int most ∨ x = .int (min most (3 * (k : Int))) ∨ x = .int (k : Int) := by simpa [Rs.fz, itOf, C.toD] using hx
    rcases hx2 with rfl | rfl | rfl
    · exact ⟨_, rfl, by omega, by omega⟩
    · exact ⟨_, rfl, by omega, by omega⟩
    · exact ⟨_, rfl, by omega, by omega⟩
  repeat' ac_rfl
  have hpin : (pinI [It.o (C.l (hD cs p q r u)), It.d (D.int most), It.d (D.int 6)] α) 7 = none := rfl
  refine vs_setLc (i := 5) (own := [("piece", 7)]) rfl hN rfl rfl rfl (sw_true rfl rfl rfl (by decide +kernel)) (blkOk_by (N := ["hand", "most", "pieces", "many", "room", "lengths", "at", "piece"]) (sc := defScope (topS 29)) (by decide +kernel)) (tb_name hN rfl (.inl rfl)) (pin1 rfl) (vi_rg1 rfl m_range ?_)
  repeat' ac_rfl
  have hdiv : 2 * room / (k : Int) ≤ 2 * room := Int.ediv_le_self _ (by omega)
  refine ⟨k, rfl, by omega, by omega, fun i ds Γ' => ∃ (ns cs : List Int) (p q r u : Int), ds = ns.map D.int ∧ ns.length = i ∧ (∀ n ∈ ns, 1 ≤ n) ∧ 0 ≤ p ∧ Γ' = [some (.o (.l (hD cs p q r u))), some (.d (.int most)), some (.d (.int 6)), some (.d (.int k)), some (.d (.int room)), none, none, none],
    by rw [rgD_I, List.length_map, rgI_length, sizeLine_eq]; omega, ⟨[], cs, p, q, r, u, rfl, rfl, by simp, hp, rfl⟩, ?_, ?_⟩
  · rintro i ds x Γ' hx ⟨ns, cs, p, q, r, u, rfl, hns, hpos, hp, rfl⟩
    obtain ⟨rfl, hi⟩ := rg_get hx
    refine ⟨by rw [List.length_map]; omega, _, rfl, fun s H C cl fp => vts_nil ⟨fun _ s H C cl fp => ?_, fun h => by cases h⟩⟩
    repeat' ac_rfl
    generalize 2 * room / (k : Int) = t at hdiv
    refine ⟨cs, p, q, r, u, _, rfl, hp, by omega, by omega, fun d2 cs p q r u e0 e1 hp => ?_⟩
    repeat' ac_rfl
    refine ⟨_, rfl, ns ++ [1 + d2], cs, p, q, r, u, by rw [List.map_append]; rfl, by simp; omega, fun n hn => ?_, hp, rfl⟩
    rcases List.mem_append.mp hn with hn | hn
    · exact hpos n hn
    · simp at hn; omega
  rintro ds Γ' ⟨ns, cs, p, q, r, u, rfl, hns, hpos, hp, rfl⟩
  have hns : ns.length = k := by rw [hns, rgD_I, List.length_map, rgI_length]; omega
  refine st_n (vb_cut (fun Γ => ∃ (ns cs : List Int) (p q r u : Int), Γ = [some (.o (.l (hD cs p q r u))), some (.d (.int most)), some (.d (.int 6)), some (.d (.int k)), some (.d (.int room)), some (.o (.l (ns.map D.int))), none, none] ∧ ns.length = k ∧ (∀ n ∈ ns, 1 ≤ n) ∧ 0 ≤ p) (vs_if ?_) ?_)
  · repeat' ac_rfl
    refine ⟨cs, p, q, r, u, 4, rfl, hp, by omega, by omega, fun d2 cs p q r u e0 e1 hp => ?_⟩
    obtain ⟨n0, ns', rfl⟩ : ∃ n0 ns', ns = n0 :: ns' := by
      cases ns with
      | nil => simp at hns; omega
      | cons a l => exact ⟨_, _, rfl⟩
    have h0 := hpos n0 List.mem_cons_self
    repeat' ac_rfl
    · refine RTimes.lst rfl (by omega) (by simp; omega) (by omega) ?_
      rw [rep_one, rep_ints]
      repeat' ac_rfl
      exact ⟨List.replicate _ n0, _, _, _, _, _, rfl, by simp, fun n hn => by rw [List.eq_of_mem_replicate hn]; exact h0, hp⟩
    · exact ⟨n0 :: ns', _, _, _, _, _, rfl, hns, hpos, hp⟩
  rintro Γ1 ⟨ns, cs, p, q, r, u, rfl, hns, hpos, hp⟩
  refine vb_cut (fun Γ => ∃ (ns cs : List Int) (p q r u : Int) (x6 : Option AV.It), Γ = [some (.o (.l (hD cs p q r u))), some (.d (.int most)), some (.d (.int 6)), some (.d (.int k)), some (.d (.int room)), some (.o (.l (ns.map D.int))), x6, none] ∧ ns.length = k ∧ (∀ n ∈ ns, 1 ≤ n) ∧ 0 ≤ p ∧ ns.sum ≤ room)
    (vs_while (fun m Γ => ∃ (ns cs : List Int) (p q r u : Int) (x6 : Option AV.It), Γ = [some (.o (.l (hD cs p q r u))), some (.d (.int most)), some (.d (.int 6)), some (.d (.int k)), some (.d (.int room)), some (.o (.l (ns.map D.int))), x6, none] ∧ ns.length = k ∧ (∀ n ∈ ns, 1 ≤ n) ∧ 0 ≤ p ∧ ns.sum = m) ns.sum.toNat ⟨ns, cs, p, q, r, u, none, rfl, hns, hpos, hp, by have := sum_ge_len hpos; omega⟩ ?_) ?_
  · rintro m Γ' ⟨ns, cs, p, q, r, u, x6, rfl, hns, hpos, hp, hsum⟩
    repeat' ac_rfl
    · obtain ⟨n0, ns', rfl⟩ : ∃ n0 ns', ns = n0 :: ns' := by
        cases ns with
        | nil => simp at hns; omega
        | cons a l => exact ⟨_, _, rfl⟩
      have hM := maxL_mem ns' n0
      have hge := maxL_le ns' n0
      have hge2 : ∀ n ∈ n0 :: ns', n ≤ maxL n0 ns' := fun n hn => by
        rcases List.mem_cons.mp hn with rfl | hn
        · exact hge.1
        · exact hge.2 n hn
      have hidx := List.idxOf_lt_length_of_mem hM
      have hjx : (n0 :: ns')[(n0 :: ns').idxOf (maxL n0 ns')]? = some (maxL n0 ns') := by rw [List.getElem?_eq_getElem hidx, List.getElem_idxOf hidx]
      have hM2 : 2 ≤ maxL n0 ns' := by
        by_cases h : maxL n0 ns' ≤ 1
        · have h3 := sum_le_mul (ns := n0 :: ns') (b := 1) fun n hn => Int.le_trans (hge2 n hn) h
          omega
        · omega
      refine pmm_mk (n := n0) (ns := ns') rfl ?_
      repeat' ac_rfl
      refine rindex_I (ns := n0 :: ns') rfl hM ?_
      generalize maxL n0 ns' = M at *
      have hat : atI ((n0 :: ns').map D.int) (((n0 :: ns').idxOf M : Nat) : Int) = some (.int M) := atI_nat (by rw [List.getElem?_map, hjx]; rfl)
      generalize (n0 :: ns').idxOf M = j at *
      repeat' ac_rfl
      refine put_l rfl (ixN_in (by omega) (by rw [List.length_map]; omega)) ?_
      repeat' ac_rfl
      rw [Int.toNat_natCast]
      refine ⟨m - 1, by omega, (n0 :: ns').set j (M - 1), cs, p, q, r, u, _, by rw [List.map_set]; rfl, by simpa using hns, fun n hn => ?_, hp, ?_⟩
      · rcases List.mem_or_eq_of_mem_set hn with hn | rfl
        · exact hpos n hn
        · omega
      · rw [sum_setL hjx]; omega
    · exact ⟨ns, cs, p, q, r, u, x6, rfl, hns, hpos, hp, by omega⟩
  rintro Γ1 ⟨ns, cs, p, q, r, u, x6, rfl, hns, hpos, hp, hsum⟩
  refine vb_cons ?_
  repeat' ac_rfl
  refine ⟨cs, p, q, r, u, k, rfl, hp, hk1, hk6, fun os cs p q r u ho hp => ?_⟩
  repeat' ac_rfl
  exact q' ns os cs p q r u ⟨by omega, by omega, hpos, by omega⟩ (by rw [hns]; exact ho) hp
end
end K80
set_option Elab.async false
set_option linter.all false
set_option maxRecDepth 100000
set_option maxHeartbeats 4000000
namespace K80
open PySem PySem.Spec PyProof.Rows L2 AV LB
local macro_rules | `(tactic| ac_rfl) => `(tactic| first
  | (with_reducible refine g_ve ?_); first
    | (with_reducible refine g_name ?_); first
      | refine vv 0 rfl ?_
      | refine vv 1 rfl ?_
      | refine vv 2 rfl ?_
      | refine vv 3 rfl ?_
      | refine vv 4 rfl ?_
      | refine vv 5 rfl ?_
      | refine vv 6 rfl ?_
      | refine vv 7 rfl ?_
      | refine vv 8 rfl ?_
      | refine vv 9 rfl ?_
      | refine vv 10 rfl ?_
      | refine vv 11 rfl ?_
      | refine vv 12 rfl ?_
      | refine vv 13 rfl ?_
      | refine vv 14 rfl ?_
      | refine vv 15 rfl ?_
      | refine ve_ty "int" rfl (by assumption) bb_int ?_
      | refine ve_ty "tuple" rfl (by assumption) bb_tuple ?_
      | refine ve_ty "bool" rfl (by assumption) bb_bool ?_
      | refine ve_ty "list" rfl (by assumption) bb_list ?_
      | refine ve_ty "str" rfl (by assumption) bb_str ?_
      | refine ve_gint rfl (by assumption) (by decide) ?_
      | refine ve_gref rfl (by assumption) (by decide) ?_
    | (with_reducible refine g_con ?_); with_reducible first
      | refine ve_int ?_
      | refine ve_bl ?_
      | refine ve_non ?_
      | refine ve_str ?_
    | (with_reducible refine g_bin ?_); with_reducible first
      | refine ve_plus ?_
      | refine ve_minus ?_
      | refine ve_times ?_
      | refine ve_fdiv ?_
      | refine ve_mod ?_
      | refine ve_pow ?_
    | (with_reducible refine g_cmp ?_); first
      | (with_reducible refine ve_eq (by assumption) ?_)
      | (with_reducible refine ve_ne (by assumption) ?_)
      | (with_reducible refine ve_lt ?_)
      | (with_reducible refine ve_le ?_)
      | (with_reducible refine ve_gt ?_)
      | (with_reducible refine ve_ge ?_)
    | (with_reducible refine ve_ch_ll ?_)
    | (with_reducible refine ve_ch_lt ?_)
    | (with_reducible refine g_call "len" ?_); refine ve_lenA rfl (by assumption) ?_
    | (with_reducible refine g_call "abs" ?_); refine ve_abs rfl (by assumption) ?_
    | (with_reducible refine g_call "int" ?_); refine ve_int1 rfl (by assumption) ?_
    | (with_reducible refine g_call "sum" ?_); refine ve_sum rfl (by assumption) ?_
    | (with_reducible refine g_ofrg "tuple" ?_); refine ve_tupRg rfl (by assumption) rfl (by assumption) ?_
    | (with_reducible refine g_ofrg "list" ?_); refine ve_listRg rfl (by assumption) rfl (by assumption) ?_
    | (with_reducible refine g_call "tuple" ?_); refine ve_tupleOf rfl (by assumption) ?_
    | (with_reducible refine g_call "list" ?_); refine ve_listOf rfl (by assumption) ?_
    | (with_reducible refine g_call "repr" ?_); refine ve_repr (by assumption) (by assumption) rfl (by assumption) ?_
    | (with_reducible refine g_call "all" ?_); refine ve_all rfl (by assumption) ?_
    | (with_reducible refine g_call "any" ?_); refine ve_any rfl (by assumption) ?_
    | (with_reducible refine g_two "min" ?_); refine ve_min2 rfl (by assumption) ?_
    | (with_reducible refine g_two "max" ?_); refine ve_max2 rfl (by assumption) ?_
    | (with_reducible refine g_one "max" ?_); refine ve_maxL (by assumption) rfl (by assumption) ?_
    | (with_reducible refine g_one "min" ?_); refine ve_minL (by assumption) rfl (by assumption) ?_
    | (with_reducible refine g_isi "int" ?_); refine ve_isi "int" rfl (by assumption) ?_
    | (with_reducible refine g_isi "bool" ?_); refine ve_isi "bool" rfl (by assumption) ?_
    | (with_reducible refine g_isi "tuple" ?_); refine ve_isi "tuple" rfl (by assumption) ?_
    | (with_reducible refine g_isi "list" ?_); refine ve_isi "list" rfl (by assumption) ?_
    | (with_reducible refine g_isi "str" ?_); refine ve_isi "str" rfl (by assumption) ?_
    | (with_reducible refine g_meth "append" ?_); refine ve_append ?_
    | (with_reducible refine g_meth "extend" ?_); refine ve_extend ?_
    | (with_reducible refine g_meth "pop" ?_); refine ve_popAt ?_
    | (with_reducible refine g_meth "count" ?_); refine ve_count (by assumption) ?_
    | (with_reducible refine g_meth "index" ?_); refine ve_index (by assumption) ?_
    | (with_reducible refine g_calln ?_); refine ve_c (by assumption) (by assumption) (by assumption) rfl rfl ?_
    | (with_reducible refine g_calln ?_); refine ve_mk (by assumption) (by assumption) (by assumption) rfl ?_
    | (with_reducible refine g_attr ?_); refine ve_fld ?_
    | (with_reducible refine ve_rev ?_)
    | refine ve_at (by assumption) ?_
    | (with_reducible refine ve_if ?_)
    | (with_reducible refine ve_tup ?_)
    | (with_reducible refine ve_lst ?_)
    | (with_reducible refine ve_dnewK ?_)
    | (with_reducible refine ve_not' ?_)
    | (with_reducible refine ve_neg' ?_)
    | (with_reducible refine ve_and' ?_)
    | (with_reducible refine ve_or' ?_)
    | (with_reducible refine ve_one ?_)
  | (with_reducible refine g_vt ?_); first
    | (with_reducible refine g_tcmp ?_); first
      | (with_reducible refine vt_eq (by assumption) ?_)
      | (with_reducible refine vt_ne (by assumption) ?_)
      | (with_reducible refine vt_lt ?_)
      | (with_reducible refine vt_le ?_)
      | (with_reducible refine vt_gt ?_)
      | (with_reducible refine vt_ge ?_)
    | (with_reducible refine vt_ch_ll ?_)
    | (with_reducible refine vt_ch_lt ?_)
    | (with_reducible refine vt_not ?_)
    | (with_reducible refine VW.vt (vw_and ?_))
    | (with_reducible refine VW.vt (vw_or ?_))
    | refine vt_bl ?_
  | (with_reducible refine g_vw ?_); with_reducible first
    | refine vw_and ?_
    | refine vw_or ?_
    | refine vw_and1 ?_
    | refine vw_or1 ?_
  | (with_reducible refine g_va ?_); first
    | (with_reducible refine va_nil ?_)
    | refine va_cons ?_
  | (with_reducible refine g_vb ?_); with_reducible first
    | refine vb_nil ?_
    | refine vb_cons ?_
  | (with_reducible refine g_vs ?_); first
    | (with_reducible refine g_set ?_); first
      | refine vs_set (i := 0) (by assumption) rfl (by first | exact Or.inl rfl | exact Or.inr rfl) rfl ?_
      | refine vs_set (i := 1) (by assumption) rfl (by first | exact Or.inl rfl | exact Or.inr rfl) rfl ?_
      | refine vs_set (i := 2) (by assumption) rfl (by first | exact Or.inl rfl | exact Or.inr rfl) rfl ?_
      | refine vs_set (i := 3) (by assumption) rfl (by first | exact Or.inl rfl | exact Or.inr rfl) rfl ?_
      | refine vs_set (i := 4) (by assumption) rfl (by first | exact Or.inl rfl | exact Or.inr rfl) rfl ?_
      | refine vs_set (i := 5) (by assumption) rfl (by first | exact Or.inl rfl | exact Or.inr rfl) rfl ?_
      | refine vs_set (i := 6) (by assumption) rfl (by first | exact Or.inl rfl | exact Or.inr rfl) rfl ?_
      | refine vs_set (i := 7) (by assumption) rfl (by first | exact Or.inl rfl | exact Or.inr rfl) rfl ?_
      | refine vs_set (i := 8) (by assumption) rfl (by first | exact Or.inl rfl | exact Or.inr rfl) rfl ?_
      | refine vs_set (i := 9) (by assumption) rfl (by first | exact Or.inl rfl | exact Or.inr rfl) rfl ?_
      | refine vs_set (i := 10) (by assumption) rfl (by first | exact Or.inl rfl | exact Or.inr rfl) rfl ?_
      | refine vs_set (i := 11) (by assumption) rfl (by first | exact Or.inl rfl | exact Or.inr rfl) rfl ?_
      | refine vs_set (i := 12) (by assumption) rfl (by first | exact Or.inl rfl | exact Or.inr rfl) rfl ?_
      | refine vs_set (i := 13) (by assumption) rfl (by first | exact Or.inl rfl | exact Or.inr rfl) rfl ?_
      | refine vs_set (i := 14) (by assumption) rfl (by first | exact Or.inl rfl | exact Or.inr rfl) rfl ?_
      | refine vs_set (i := 15) (by assumption) rfl (by first | exact Or.inl rfl | exact Or.inr rfl) rfl ?_
    | (with_reducible refine g_aug ?_); first
      | refine vs_add 0 (by assumption) rfl (by first | exact Or.inl rfl | exact Or.inr rfl) rfl rfl ?_
      | refine vs_add 1 (by assumption) rfl (by first | exact Or.inl rfl | exact Or.inr rfl) rfl rfl ?_
      | refine vs_add 2 (by assumption) rfl (by first | exact Or.inl rfl | exact Or.inr rfl) rfl rfl ?_
      | refine vs_add 3 (by assumption) rfl (by first | exact Or.inl rfl | exact Or.inr rfl) rfl rfl ?_
      | refine vs_add 4 (by assumption) rfl (by first | exact Or.inl rfl | exact Or.inr rfl) rfl rfl ?_
      | refine vs_add 5 (by assumption) rfl (by first | exact Or.inl rfl | exact Or.inr rfl) rfl rfl ?_
      | refine vs_add 6 (by assumption) rfl (by first | exact Or.inl rfl | exact Or.inr rfl) rfl rfl ?_
      | refine vs_add 7 (by assumption) rfl (by first | exact Or.inl rfl | exact Or.inr rfl) rfl rfl ?_
      | refine vs_add 8 (by assumption) rfl (by first | exact Or.inl rfl | exact Or.inr rfl) rfl rfl ?_
      | refine vs_add 9 (by assumption) rfl (by first | exact Or.inl rfl | exact Or.inr rfl) rfl rfl ?_
      | refine vs_add 10 (by assumption) rfl (by first | exact Or.inl rfl | exact Or.inr rfl) rfl rfl ?_
      | refine vs_add 11 (by assumption) rfl (by first | exact Or.inl rfl | exact Or.inr rfl) rfl rfl ?_
      | refine vs_add 12 (by assumption) rfl (by first | exact Or.inl rfl | exact Or.inr rfl) rfl rfl ?_
      | refine vs_add 13 (by assumption) rfl (by first | exact Or.inl rfl | exact Or.inr rfl) rfl rfl ?_
      | refine vs_add 14 (by assumption) rfl (by first | exact Or.inl rfl | exact Or.inr rfl) rfl rfl ?_
      | refine vs_add 15 (by assumption) rfl (by first | exact Or.inl rfl | exact Or.inr rfl) rfl rfl ?_
    | (with_reducible refine g_fset ?_); refine vs_fld (i := 0) rfl (.inl rfl) (by decide) (by decide) ?_
    | (with_reducible refine g_put ?_); refine vs_put ?_
    | (with_reducible refine vs_ife ?_)
    | refine vs_ret ?_
    | refine vs_expr ?_
    | (with_reducible refine vs_pass ?_)
  | (with_reducible refine g_vps ?_); first
    | (with_reducible refine vps_nil ?_)
    | refine vps_cons ?_
  | (with_reducible refine g_nx ?_); first
    | refine vb_nil ?_
    | refine vb_cons ?_
  | (with_reducible refine g_rt ?_); first
    | refine rt_d ?_
    | refine rt_n ?_
    | refine rt_s rfl rfl ?_
  | (with_reducible refine g_stored ?_); first
    | refine st_d ?_
    | refine st_n ?_
  | (with_reducible refine g_sa ?_); first
    | refine sa_nil ?_
    | refine sa_d ?_
    | refine sa_n ?_
  | (with_reducible refine g_nos ?_); first
    | exact noS_d
    | exact noS_n
  | (with_reducible refine g_len ?_); rfl
  | (with_reducible refine g_pmake ?_); first
    | refine pmake_mk (so0 rfl) ?_
    | refine pmake_mk (so1 rfl rfl) ?_
  | (with_reducible refine g_pcall ?_); first
    | refine pcall_mk (so0 rfl) ?_
    | refine pcall_mk (so1 rfl rfl) ?_
    | refine pcall_mk (so2 rfl (by decide) rfl rfl) ?_
  | (with_reducible refine g_prg ?_); refine prg_mk (by omega) (by omega) ?_
  | (with_reducible refine g_pfld ?_); refine pfld_mk (by assumption) (by assumption) rfl ?_
  | (with_reducible refine g_pfst ?_); refine pfst_mk rfl (by assumption) (by assumption) (Nat.le_of_ble_eq_true rfl) ?_
  | (with_reducible refine g_plenA ?_); first
    | refine PLen.seq rfl ?_
    | refine PLen.dct rfl ?_
  | (with_reducible refine g_pbs ?_); refine pbs_mk rfl ?_
  | (with_reducible refine g_ptup ?_); first
    | refine ptupL rfl ?_
    | refine ptupT rfl ?_
  | (with_reducible refine g_plst ?_); refine plst_mk rfl ?_
  | (with_reducible refine g_psum ?_); refine psum_mk rfl ?_
  | (with_reducible refine g_prev ?_); first
    | refine prev_lst rfl ?_
    | refine prev_tup rfl ?_
    | refine PRevA.lst rfl ?_
    | refine PRevA.tup rfl ?_
  | (with_reducible refine g_pbo ?_); refine PBo.mk ?_ ?_
  | (with_reducible refine g_pneg ?_); refine PNeg.mk ?_
  | (with_reducible refine g_rch ?_); refine RCh.mk ?_ ?_
  | (with_reducible refine g_pi2 ?_); refine pi2_mk ?_
  | (with_reducible refine g_pi1 ?_); refine pi1_mk ?_
  | (with_reducible refine g_pisi ?_); refine pisi_mk rfl rfl (by first | exact kit_t (by decide) | exact kit_f (by decide)) ?_
  | (with_reducible refine g_tl ?_); refine tl_mk rfl
  | (with_reducible refine g_tls ?_); exact ⟨_, rfl⟩
  | (with_reducible refine g_rcnt ?_); refine rcntB rfl ?_
  | (with_reducible refine g_rds ?_); first
    | refine rds1 ?_
    | refine rds2 ?_
    | refine rds3 ?_
    | refine rds4 ?_
    | refine rds5 ?_
    | refine rds0 ?_
    | refine rds6 ?_
  | (with_reducible refine g_vbx ?_); with_reducible first
    | refine vbx_nil ?_
    | refine vbx_cons ?_
  | (with_reducible refine g_vsx ?_); first
    | (with_reducible refine g_raise ?_); refine vsx_raise rfl (by assumption) (by assumption) rfl ?_
    | (with_reducible refine g_ifx ?_); (with_reducible refine vsx_if (by assumption) ?_)
    | (with_reducible refine g_exprx ?_); refine vsx_expr ?_
    | (with_reducible refine vsx_of (by assumption) ?_)
  | (with_reducible refine g_vex ?_); first
    | refine vex_c (by assumption) (by assumption) (by assumption) (by assumption) rfl rfl ?_
    | (with_reducible refine vex_of (by assumption) ?_)
  | (with_reducible refine g_pcx ?_); first
    | refine pcx1 ?_
    | refine pcx2 ?_
    | refine pcx3 ?_
  | (with_reducible exact ft_)
  | (with_reducible exact tf_)
  | (with_reducible refine tt_ ?_)
  | (with_reducible refine ff_ ?_)
  | (with_reducible refine And.intro ?_ ?_)
  | (with_reducible refine g_qb ?_)
  | (with_reducible intro hh); (try simp only [id, Bool.not_true, Bool.not_false, decide_eq_true_eq, decide_eq_false_iff_not, Bool.not_eq_true', Bool.not_eq_false', reduceCtorEq, not_true_eq_false] at hh)
  | (with_reducible refine g_rplus ?_); refine RPlus.int ?_
  | (with_reducible refine g_rsub ?_); refine RSub.int ?_
  | (with_reducible refine g_rtimes ?_); refine RTimes.int (by first | exact .inl ⟨by omega, by omega⟩ | exact .inr ⟨by omega, by omega⟩) ?_
  | (with_reducible refine g_rdiv ?_); refine RDivI.int (by omega) (by omega) ?_
  | (with_reducible refine g_rmod ?_); refine RModI.int (by first | omega | decide) ?_
  | (with_reducible refine g_rpow ?_); refine RPowI.int (by decide) (by decide) ?_
  | (with_reducible refine g_rc2 ?_); refine RC2.int ?_
  | (with_reducible refine g_rq ?_); first
    | refine RQ.int ?_
    | refine RQ.str ?_
    | refine rq_tup rfl rfl ?_
    | refine rq_lst rfl rfl ?_
  | (with_reducible refine g_rat ?_); first
    | refine RAt.seq rfl (by first | assumption | exact at0 | exact at1 | exact at2 | exact at3 | exact at4) ?_
    | refine RAt.dct rfl rfl (by assumption) ?_
  | (with_reducible refine g_rput ?_); refine put5 rfl rfl (by omega) (by omega) ?_)
section
variable {P : Program} {w : World} {K : PySem.W.Frag} {mg : Str → Option Value} {base : Heap}
theorem ok_check_row {f : Addr} {fd : FuncData} (gb : BI mg) (F : L2.Fun K "check_row" "check_row" (topS 18) f fd) (hm : mg "check_row" = some (.ref f)) (b : Binds K fd ["laying", "row"] []) {CL : Addr} (L : LC K CL) (cm : CI mg "MOST_IN_ROW" 1000000000) (c0 : CalV P w K mg base 2 "check_laying" 1 (spChk CL)) (c1 : CalV P w K mg base 2 "is_integer" 1 spIsInt) : CalV P w K mg base 3 "check_row" 2 (spChkRow CL) := by
  have ⟨m_len, m_int, m_abs, m_sum, m_tuple, m_list, m_repr, m_range, m_isi, m_all, m_max, m_min, m_enum, m_bool, m_any, m_sorted, m_zip, m_set, m_str⟩ := gb
  refine calv0 F hm b rfl sc_check_row ?_
  rintro cdv A outer s H E its α R hr hgd0 ⟨ls, os, row, rfl, okl, okr, q⟩
  have hu : (bcx P w K mg base ["laying", "row", "one"] "check_row" (topS 18) f cdv A outer s H E).A.units + 64 < cLine := hr.units
  have hu1 : (bcx P w K mg base ["laying", "row", "one"] "check_row" (topS 18) f cdv A outer s H E).A.units + 1 < cLine := hu_of hr
  have hu65 : (bcx P w K mg base ["laying", "row", "one"] "check_row" (topS 18) f cdv A outer s H E).A.units + 65 < cLine := room65 hr
  have hgd : (bcx P w K mg base ["laying", "row", "one"] "check_row" (topS 18) f cdv A outer s H E).A.guards = some [] := hgd0
  have hN : (bcx P w K mg base ["laying", "row", "one"] "check_row" (topS 18) f cdv A outer s H E).N.Nodup := sc_check_row.nd
  have hnx : NoX (bcx P w K mg base ["laying", "row", "one"] "check_row" (topS 18) f cdv A outer s H E) := ⟨rfl, fun _ _ z => z⟩
  have ⟨⟨hcl, _, _, _, _, _⟩, n1, n2, n3, n4, n5⟩ := L
  obtain ⟨tm, cm⟩ := cm
  obtain ⟨M, hM⟩ : ∃ M : Int, M = 1000000000 := ⟨_, rfl⟩
  rw [← hM] at cm
  have hsum := okl.sum
  have hrl := okr.len
  refine vb_cons ?_
  repeat' ac_rfl
  refine ⟨ls, os, rfl, ?_⟩
  repeat' ac_rfl
  · exfalso
    rename_i hh
    simp only [List.length_map] at hh
    exact hh hrl
  refine ve_lc (own := [("one", 2)]) rfl hN (blkOk_by (N := ["laying", "row", "one"]) (sc := defScope (topS 18)) (by decide +kernel)) (tb_name hN rfl (.inl rfl)) (pin1 rfl) (vi_tup ?_)
  repeat' ac_rfl
  refine ⟨_, row.map D.int, rfl, .inl rfl, ?_⟩
  refine lc_mB row D.int (fun _ => true) rfl (by omega) rfl (fun n hn => ⟨_, rfl, fun s H C cl fp => ?_⟩) ?_
  · have hs := okr.small n hn
    repeat' ac_rfl
    refine ⟨_, _, rfl, rfl, ?_⟩
    repeat' ac_rfl
    all_goals first | exact congrArg (fun b => Rs.d (D.bl b)) (decide_eq_true (by omega)) | rfl
  repeat' ac_rfl
  · refine nx_end ?_
    exact q
  · exfalso
    simp at *
end
end K80
set_option Elab.async false
set_option linter.all false
set_option maxRecDepth 100000
set_option maxHeartbeats 4000000
namespace K80
open PySem PySem.Spec PyProof.Rows L2 AV LB
local macro_rules | `(tactic| ac_rfl) => `(tactic| first
  | (with_reducible refine g_ve ?_); first
    | (with_reducible refine g_name ?_); first
      | refine vv 0 rfl ?_
      | refine vv 1 rfl ?_
      | refine vv 2 rfl ?_
      | refine vv 3 rfl ?_
      | refine vv 4 rfl ?_
      | refine vv 5 rfl ?_
      | refine vv 6 rfl ?_
      | refine vv 7 rfl ?_
      | refine vv 8 rfl ?_
      | refine vv 9 rfl ?_
      | refine vv 10 rfl ?_
      | refine vv 11 rfl ?_
      | refine vv 12 rfl ?_
      | refine vv 13 rfl ?_
      | refine vv 14 rfl ?_
      | refine vv 15 rfl ?_
      | refine ve_ty "int" rfl (by assumption) bb_int ?_
      | refine ve_ty "tuple" rfl (by assumption) bb_tuple ?_
      | refine ve_ty "bool" rfl (by assumption) bb_bool ?_
      | refine ve_ty "list" rfl (by assumption) bb_list ?_
      | refine ve_ty "str" rfl (by assumption) bb_str ?_
      | refine ve_gint rfl (by assumption) (by decide) ?_
      | refine ve_gref rfl (by assumption) (by decide) ?_
    | (with_reducible refine g_con ?_); with_reducible first
      | refine ve_int ?_
      | refine ve_bl ?_
      | refine ve_non ?_
      | refine ve_str ?_
    | (with_reducible refine g_bin ?_); with_reducible first
      | refine ve_plus ?_
      | refine ve_minus ?_
      | refine ve_times ?_
      | refine ve_fdiv ?_
      | refine ve_mod ?_
      | refine ve_pow ?_
    | (with_reducible refine g_cmp ?_); first
      | (with_reducible refine ve_eq (by assumption) ?_)
      | (with_reducible refine ve_ne (by assumption) ?_)
      | (with_reducible refine ve_lt ?_)
      | (with_reducible refine ve_le ?_)
      | (with_reducible refine ve_gt ?_)
      | (with_reducible refine ve_ge ?_)
    | (with_reducible refine ve_ch_ll ?_)
    | (with_reducible refine ve_ch_lt ?_)
    | (with_reducible refine g_call "len" ?_); refine ve_lenA rfl (by assumption) ?_
    | (with_reducible refine g_call "abs" ?_); refine ve_abs rfl (by assumption) ?_
    | (with_reducible refine g_call "int" ?_); refine ve_int1 rfl (by assumption) ?_
    | (with_reducible refine g_call "sum" ?_); refine ve_sum rfl (by assumption) ?_
    | (with_reducible refine g_ofrg "tuple" ?_); refine ve_tupRg rfl (by assumption) rfl (by assumption) ?_
    | (with_reducible refine g_ofrg "list" ?_); refine ve_listRg rfl (by assumption) rfl (by assumption) ?_
    | (with_reducible refine g_call "tuple" ?_); refine ve_tupleOf rfl (by assumption) ?_
    | (with_reducible refine g_call "list" ?_); refine ve_listOf rfl (by assumption) ?_
    | (with_reducible refine g_call "repr" ?_); refine ve_repr (by assumption) (by assumption) rfl (by assumption) ?_
    | (with_reducible refine g_call "all" ?_); refine ve_all rfl (by assumption) ?_
    | (with_reducible refine g_call "any" ?_); refine ve_any rfl (by assumption) ?_
    | (with_reducible refine g_two "min" ?_); refine ve_min2 rfl (by assumption) ?_
    | (with_reducible refine g_two "max" ?_); refine ve_max2 rfl (by assumption) ?_
    | (with_reducible refine g_one "max" ?_); refine ve_maxL (by assumption) rfl (by assumption) ?_
    | (with_reducible refine g_one "min" ?_); refine ve_minL (by assumption) rfl (by assumption) ?_
    | (with_reducible refine g_isi "int" ?_); refine ve_isi "int" rfl (by assumption) ?_
    | (with_reducible refine g_isi "bool" ?_); refine ve_isi "bool" rfl (by assumption) ?_
    | (with_reducible refine g_isi "tuple" ?_); refine ve_isi "tuple" rfl (by assumption) ?_
    | (with_reducible refine g_isi "list" ?_); refine ve_isi "list" rfl (by assumption) ?_
    | (with_reducible refine g_isi "str" ?_); refine ve_isi "str" rfl (by assumption) ?_
    | (with_reducible refine g_meth "append" ?_); refine ve_append ?_
    | (with_reducible refine g_meth "extend" ?_); refine ve_extend ?_
    | (with_reducible refine g_meth "pop" ?_); refine ve_popAt ?_
    | (with_reducible refine g_meth "count" ?_); refine ve_count (by assumption) ?_
    | (with_reducible refine g_meth "index" ?_); refine ve_index (by assumption) ?_
    | (with_reducible refine g_calln ?_); refine ve_c (by assumption) (by assumption) (by assumption) rfl rfl ?_
    | (with_reducible refine g_calln ?_); refine ve_mk (by assumption) (by assumption) (by assumption) rfl ?_
    | (with_reducible refine g_attr ?_); refine ve_fld ?_
    | (with_reducible refine ve_rev ?_)
    | refine ve_at (by assumption) ?_
    | (with_reducible refine ve_if ?_)
    | (with_reducible refine ve_tup ?_)
    | (with_reducible refine ve_lst ?_)
    | (with_reducible refine ve_dnewK ?_)
    | (with_reducible refine ve_not' ?_)
    | (with_reducible refine ve_neg' ?_)
    | (with_reducible refine ve_and' ?_)
    | (with_reducible refine ve_or' ?_)
    | (with_reducible refine ve_one ?_)
  | (with_reducible refine g_vt ?_); first
    | (with_reducible refine g_tcmp ?_); first
      | (with_reducible refine vt_eq (by assumption) ?_)
      | (with_reducible refine vt_ne (by assumption) ?_)
      | (with_reducible refine vt_lt ?_)
      | (with_reducible refine vt_le ?_)
      | (with_reducible refine vt_gt ?_)
      | (with_reducible refine vt_ge ?_)
    | (with_reducible refine vt_ch_ll ?_)
    | (with_reducible refine vt_ch_lt ?_)
    | (with_reducible refine vt_not ?_)
    | (with_reducible refine VW.vt (vw_and ?_))
    | (with_reducible refine VW.vt (vw_or ?_))
    | refine vt_bl ?_
  | (with_reducible refine g_vw ?_); with_reducible first
    | refine vw_and ?_
    | refine vw_or ?_
    | refine vw_and1 ?_
    | refine vw_or1 ?_
  | (with_reducible refine g_va ?_); first
    | (with_reducible refine va_nil ?_)
    | refine va_cons ?_
  | (with_reducible refine g_vb ?_); with_reducible first
    | refine vb_nil ?_
    | refine vb_cons ?_
  | (with_reducible refine g_vs ?_); first
    | (with_reducible refine g_set ?_); first
      | refine vs_set (i := 0) (by assumption) rfl (by first | exact Or.inl rfl | exact Or.inr rfl) rfl ?_
      | refine vs_set (i := 1) (by assumption) rfl (by first | exact Or.inl rfl | exact Or.inr rfl) rfl ?_
      | refine vs_set (i := 2) (by assumption) rfl (by first | exact Or.inl rfl | exact Or.inr rfl) rfl ?_
      | refine vs_set (i := 3) (by assumption) rfl (by first | exact Or.inl rfl | exact Or.inr rfl) rfl ?_
      | refine vs_set (i := 4) (by assumption) rfl (by first | exact Or.inl rfl | exact Or.inr rfl) rfl ?_
      | refine vs_set (i := 5) (by assumption) rfl (by first | exact Or.inl rfl | exact Or.inr rfl) rfl ?_
      | refine vs_set (i := 6) (by assumption) rfl (by first | exact Or.inl rfl | exact Or.inr rfl) rfl ?_
      | refine vs_set (i := 7) (by assumption) rfl (by first | exact Or.inl rfl | exact Or.inr rfl) rfl ?_
      | refine vs_set (i := 8) (by assumption) rfl (by first | exact Or.inl rfl | exact Or.inr rfl) rfl ?_
      | refine vs_set (i := 9) (by assumption) rfl (by first | exact Or.inl rfl | exact Or.inr rfl) rfl ?_
      | refine vs_set (i := 10) (by assumption) rfl (by first | exact Or.inl rfl | exact Or.inr rfl) rfl ?_
      | refine vs_set (i := 11) (by assumption) rfl (by first | exact Or.inl rfl | exact Or.inr rfl) rfl ?_
      | refine vs_set (i := 12) (by assumption) rfl (by first | exact Or.inl rfl | exact Or.inr rfl) rfl ?_
      | refine vs_set (i := 13) (by assumption) rfl (by first | exact Or.inl rfl | exact Or.inr rfl) rfl ?_
      | refine vs_set (i := 14) (by assumption) rfl (by first | exact Or.inl rfl | exact Or.inr rfl) rfl ?_
      | refine vs_set (i := 15) (by assumption) rfl (by first | exact Or.inl rfl | exact Or.inr rfl) rfl ?_
    | (with_reducible refine g_aug ?_); first
      | refine vs_add 0 (by assumption) rfl (by first | exact Or.inl rfl | exact Or.inr rfl) rfl rfl ?_
      | refine vs_add 1 (by assumption) rfl (by first | exact Or.inl rfl | exact Or.inr rfl) rfl rfl ?_
      | refine vs_add 2 (by assumption) rfl (by first | exact Or.inl rfl | exact Or.inr rfl) rfl rfl ?_
      | refine vs_add 3 (by assumption) rfl (by first | exact Or.inl rfl | exact Or.inr rfl) rfl rfl ?_
      | refine vs_add 4 (by assumption) rfl (by first | exact Or.inl rfl | exact Or.inr rfl) rfl rfl ?_
      | refine vs_add 5 (by assumption) rfl (by first | exact Or.inl rfl | exact Or.inr rfl) rfl rfl ?_
      | refine vs_add 6 (by assumption) rfl (by first | exact Or.inl rfl | exact Or.inr rfl) rfl rfl ?_
      | refine vs_add 7 (by assumption) rfl (by first | exact Or.inl rfl | exact Or.inr rfl) rfl rfl ?_
      | refine vs_add 8 (by assumption) rfl (by first | exact Or.inl rfl | exact Or.inr rfl) rfl rfl ?_
      | refine vs_add 9 (by assumption) rfl (by first | exact Or.inl rfl | exact Or.inr rfl) rfl rfl ?_
      | refine vs_add 10 (by assumption) rfl (by first | exact Or.inl rfl | exact Or.inr rfl) rfl rfl ?_
      | refine vs_add 11 (by assumption) rfl (by first | exact Or.inl rfl | exact Or.inr rfl) rfl rfl ?_
      | refine vs_add 12 (by assumption) rfl (by first | exact Or.inl rfl | exact Or.inr rfl) rfl rfl ?_
      | refine vs_add 13 (by assumption) rfl (by first | exact Or.inl rfl | exact Or.inr rfl) rfl rfl ?_
      | refine vs_add 14 (by assumption) rfl (by first | exact Or.inl rfl | exact Or.inr rfl) rfl rfl ?_
      | refine vs_add 15 (by assumption) rfl (by first | exact Or.inl rfl | exact Or.inr rfl) rfl rfl ?_
    | (with_reducible refine g_fset ?_); refine vs_fld (i := 0) rfl (.inl rfl) (by decide) (by decide) ?_
    | (with_reducible refine g_put ?_); refine vs_put ?_
    | (with_reducible refine vs_ife ?_)
    | refine vs_ret ?_
    | refine vs_expr ?_
    | (with_reducible refine vs_pass ?_)
  | (with_reducible refine g_vps ?_); first
    | (with_reducible refine vps_nil ?_)
    | refine vps_cons ?_
  | (with_reducible refine g_nx ?_); first
    | refine vb_nil ?_
    | refine vb_cons ?_
  | (with_reducible refine g_rt ?_); first
    | refine rt_d ?_
    | refine rt_n ?_
    | refine rt_s rfl rfl ?_
  | (with_reducible refine g_stored ?_); first
    | refine st_d ?_
    | refine st_n ?_
  | (with_reducible refine g_sa ?_); first
    | refine sa_nil ?_
    | refine sa_d ?_
    | refine sa_n ?_
  | (with_reducible refine g_nos ?_); first
    | exact noS_d
    | exact noS_n
  | (with_reducible refine g_len ?_); rfl
  | (with_reducible refine g_pmake ?_); first
    | refine pmake_mk (so0 rfl) ?_
    | refine pmake_mk (so1 rfl rfl) ?_
  | (with_reducible refine g_pcall ?_); first
    | refine pcall_mk (so0 rfl) ?_
    | refine pcall_mk (so1 rfl rfl) ?_
    | refine pcall_mk (so2 rfl (by decide) rfl rfl) ?_
  | (with_reducible refine g_prg ?_); refine prg_mk (by omega) (by omega) ?_
  | (with_reducible refine g_pfld ?_); refine pfld_mk (by assumption) (by assumption) rfl ?_
  | (with_reducible refine g_pfst ?_); refine pfst_mk rfl (by assumption) (by assumption) (Nat.le_of_ble_eq_true rfl) ?_
  | (with_reducible refine g_plenA ?_); first
    | refine PLen.seq rfl ?_
    | refine PLen.dct rfl ?_
  | (with_reducible refine g_pbs ?_); refine pbs_mk rfl ?_
  | (with_reducible refine g_ptup ?_); first
    | refine ptupL rfl ?_
    | refine ptupT rfl ?_
  | (with_reducible refine g_plst ?_); refine plst_mk rfl ?_
  | (with_reducible refine g_psum ?_); refine psum_mk rfl ?_
  | (with_reducible refine g_prev ?_); first
    | refine prev_lst rfl ?_
    | refine prev_tup rfl ?_
    | refine PRevA.lst rfl ?_
    | refine PRevA.tup rfl ?_
  | (with_reducible refine g_pbo ?_); refine PBo.mk ?_ ?_
  | (with_reducible refine g_pneg ?_); refine PNeg.mk ?_
  | (with_reducible refine g_rch ?_); refine RCh.mk ?_ ?_
  | (with_reducible refine g_pi2 ?_); refine pi2_mk ?_
  | (with_reducible refine g_pi1 ?_); refine pi1_mk ?_
  | (with_reducible refine g_pisi ?_); refine pisi_mk rfl rfl (by first | exact kit_t (by decide) | exact kit_f (by decide)) ?_
  | (with_reducible refine g_tl ?_); refine tl_mk rfl
  | (with_reducible refine g_tls ?_); exact ⟨_, rfl⟩
  | (with_reducible refine g_rcnt ?_); refine rcntB rfl ?_
  | (with_reducible refine g_rds ?_); first
    | refine rds1 ?_
    | refine rds2 ?_
    | refine rds3 ?_
    | refine rds4 ?_
    | refine rds5 ?_
    | refine rds0 ?_
    | refine rds6 ?_
  | (with_reducible refine g_vbx ?_); with_reducible first
    | refine vbx_nil ?_
    | refine vbx_cons ?_
  | (with_reducible refine g_vsx ?_); first
    | (with_reducible refine g_raise ?_); refine vsx_raise rfl (by assumption) (by assumption) rfl ?_
    | (with_reducible refine g_ifx ?_); (with_reducible refine vsx_if (by assumption) ?_)
    | (with_reducible refine g_exprx ?_); refine vsx_expr ?_
    | (with_reducible refine vsx_of (by assumption) ?_)
  | (with_reducible refine g_vex ?_); first
    | refine vex_c (by assumption) (by assumption) (by assumption) (by assumption) rfl rfl ?_
    | (with_reducible refine vex_of (by assumption) ?_)
  | (with_reducible refine g_pcx ?_); first
    | refine pcx1 ?_
    | refine pcx2 ?_
    | refine pcx3 ?_
  | (with_reducible exact ft_)
  | (with_reducible exact tf_)
  | (with_reducible refine tt_ ?_)
  | (with_reducible refine ff_ ?_)
  | (with_reducible refine And.intro ?_ ?_)
  | (with_reducible refine g_qb ?_)
  | (with_reducible intro hh); (try simp only [id, Bool.not_true, Bool.not_false, decide_eq_true_eq, decide_eq_false_iff_not, Bool.not_eq_true', Bool.not_eq_false', reduceCtorEq, not_true_eq_false] at hh)
  | (with_reducible refine g_rplus ?_); refine RPlus.int ?_
  | (with_reducible refine g_rsub ?_); refine RSub.int ?_
  | (with_reducible refine g_rtimes ?_); refine RTimes.int (by first | exact .inl ⟨by omega, by omega⟩ | exact .inr ⟨by omega, by omega⟩) ?_
  | (with_reducible refine g_rdiv ?_); refine RDivI.int (by omega) (by omega) ?_
  | (with_reducible refine g_rmod ?_); refine RModI.int (by first | omega | decide) ?_
  | (with_reducible refine g_rpow ?_); refine RPowI.int (by decide) (by decide) ?_
  | (with_reducible refine g_rc2 ?_); refine RC2.int ?_
  | (with_reducible refine g_rq ?_); first
    | refine RQ.int ?_
    | refine RQ.str ?_
    | refine rq_tup rfl rfl ?_
    | refine rq_lst rfl rfl ?_
  | (with_reducible refine g_rat ?_); first
    | refine RAt.seq rfl (by first | assumption | exact at0 | exact at1 | exact at2 | exact at3 | exact at4) ?_
    | refine RAt.dct rfl rfl (by assumption) ?_
  | (with_reducible refine g_rput ?_); refine put5 rfl rfl (by omega) (by omega) ?_)
section
variable {P : Program} {w : World} {K : PySem.W.Frag} {mg : Str → Option Value} {base : Heap}
theorem okx_check_row {f : Addr} {fd : FuncData} (gb : BI mg) (F : L2.Fun K "check_row" "check_row" (topS 18) f fd) (hm : mg "check_row" = some (.ref f)) (b : Binds K fd ["laying", "row"] []) {CL EL ER : Addr} (L : LC K CL) (cm : CI mg "MOST_IN_ROW" 1000000000) (eR : EC K mg "NoRow" ER) (c0 : CalV P w K mg base 2 "check_laying" 1 (spChk CL)) (cx : CalX P w K mg base 2 "check_laying" 1 (spNoI CL EL K)) (c1 : CalV P w K mg base 2 "is_integer" 1 spIsInt) : CalX P w K mg base 3 "check_row" 2 (spRowX CL EL ER K) := by
  have ⟨m_len, m_int, m_abs, m_sum, m_tuple, m_list, m_repr, m_range, m_isi, m_all, m_max, m_min, m_enum, m_bool, m_any, m_sorted, m_zip, m_set, m_str⟩ := gb
  refine calx0 F hm b rfl sc_check_row ?_
  rintro cdv A outer s H E its α R XR hr hgd0 h
  have hu : (bcx P w K mg base ["laying", "row", "one"] "check_row" (topS 18) f cdv A outer s H E).A.units + 64 < cLine := hr.units
  have hu1 : (bcx P w K mg base ["laying", "row", "one"] "check_row" (topS 18) f cdv A outer s H E).A.units + 1 < cLine := hu_of hr
  have hu65 : (bcx P w K mg base ["laying", "row", "one"] "check_row" (topS 18) f cdv A outer s H E).A.units + 65 < cLine := room65 hr
  have hgd : (bcx P w K mg base ["laying", "row", "one"] "check_row" (topS 18) f cdv A outer s H E).A.guards = some [] := hgd0
  have hN : (bcx P w K mg base ["laying", "row", "one"] "check_row" (topS 18) f cdv A outer s H E).N.Nodup := sc_check_row.nd
  have hnx : NoX (bcx P w K mg base ["laying", "row", "one"] "check_row" (topS 18) f cdv A outer s H E) := ⟨rfl, fun _ _ z => z⟩
  have ⟨⟨hcl, _, _, _, _, _⟩, n1, n2, n3, n4, n5⟩ := L
  have eRk := eR.k
  have eRg := eR.g
  obtain ⟨tm, cm⟩ := cm
  obtain ⟨M, hM⟩ : ∃ M : Int, M = 1000000000 := ⟨_, rfl⟩
  rw [← hM] at cm
  rcases h with ⟨x, y, rfl, hx, q⟩ | ⟨ls, os, y, rfl, okl, hy, q⟩
  · refine vbx_cons ?_
    repeat' ac_rfl
    exact ⟨x, rfl, hx, q⟩
  · have hsum := okl.sum
    refine vbx_ok hnx (vs_expr (ve_c c0 hr hgd rfl rfl ?_))
    repeat' ac_rfl
    refine ⟨ls, os, rfl, ?_⟩
    repeat' ac_rfl
    rcases hy with ⟨nm, hn, hk⟩ | ⟨ds, rfl, hl⟩ | ⟨d, row, rfl, hl, hd, hs⟩
    · refine pisi_mk rfl hn hk ?_
      repeat' ac_rfl
      exact q
    · repeat' ac_rfl
      · exact q
      · exfalso
        rename_i hh
        exact hl hh
    · have e0 : (d :: row.map D.int).length = row.length + 1 := by simp
      repeat' ac_rfl
      · exact q
      · have g0 : rowG M d = false := by
          rcases hd with h | ⟨i, rfl, hi⟩
          · exact rowG_no h
          · show decide ((i.natAbs : Int) < M) = false
            exact decide_eq_false (by omega)
        refine ve_lc (own := [("one", 2)]) rfl hN (blkOk_by (N := ["laying", "row", "one"]) (sc := defScope (topS 18)) (by decide +kernel)) (tb_name hN rfl (.inl rfl)) (pin1 rfl) (vi_tup ?_)
        repeat' ac_rfl
        refine ⟨_, d :: row.map D.int, rfl, .inl rfl, ?_⟩
        refine lc_mB (d :: row.map D.int) (fun x => x) (rowG M) (by simp) (by omega) rfl (fun n hn => ⟨_, rfl, fun s H C cl fp => ?_⟩) ?_
        · have key : (∃ i, n = .int i) ∨ isIntD n = some false := by
            rcases List.mem_cons.mp hn with rfl | hn
            · rcases hd with h | ⟨i, rfl, hi⟩
              · exact .inr h
              · exact .inl ⟨i, rfl⟩
            · obtain ⟨i, _, rfl⟩ := List.mem_map.mp hn
              exact .inl ⟨i, rfl⟩
          rcases key with ⟨i, rfl⟩ | hnb
          · repeat' ac_rfl
            refine ⟨_, _, rfl, rfl, ?_⟩
            repeat' ac_rfl
            all_goals rfl
          · repeat' ac_rfl
            refine ⟨_, _, rfl, hnb, ?_⟩
            rw [rowG_no hnb]
            repeat' ac_rfl
            all_goals rfl
        repeat' ac_rfl
        all_goals first
          | exact q
          | (exfalso; simp [g0] at *; done)
end
end K80
set_option Elab.async false
set_option linter.all false
set_option maxRecDepth 100000
set_option maxHeartbeats 4000000
namespace K80
open PySem PySem.Spec PyProof.Rows L2 AV LB
local macro_rules | `(tactic| ac_rfl) => `(tactic| first
  | (with_reducible refine g_ve ?_); first
    | (with_reducible refine g_name ?_); first
      | refine vv 0 rfl ?_
      | refine vv 1 rfl ?_
      | refine vv 2 rfl ?_
      | refine vv 3 rfl ?_
      | refine vv 4 rfl ?_
      | refine vv 5 rfl ?_
      | refine vv 6 rfl ?_
      | refine vv 7 rfl ?_
      | refine vv 8 rfl ?_
      | refine vv 9 rfl ?_
      | refine vv 10 rfl ?_
      | refine vv 11 rfl ?_
      | refine vv 12 rfl ?_
      | refine vv 13 rfl ?_
      | refine vv 14 rfl ?_
      | refine vv 15 rfl ?_
      | refine ve_ty "int" rfl (by assumption) bb_int ?_
      | refine ve_ty "tuple" rfl (by assumption) bb_tuple ?_
      | refine ve_ty "bool" rfl (by assumption) bb_bool ?_
      | refine ve_ty "list" rfl (by assumption) bb_list ?_
      | refine ve_ty "str" rfl (by assumption) bb_str ?_
      | refine ve_gint rfl (by assumption) (by decide) ?_
      | refine ve_gref rfl (by assumption) (by decide) ?_
    | (with_reducible refine g_con ?_); with_reducible first
      | refine ve_int ?_
      | refine ve_bl ?_
      | refine ve_non ?_
      | refine ve_str ?_
    | (with_reducible refine g_bin ?_); with_reducible first
      | refine ve_plus ?_
      | refine ve_minus ?_
      | refine ve_times ?_
      | refine ve_fdiv ?_
      | refine ve_mod ?_
      | refine ve_pow ?_
    | (with_reducible refine g_cmp ?_); first
      | (with_reducible refine ve_eq (by assumption) ?_)
      | (with_reducible refine ve_ne (by assumption) ?_)
      | (with_reducible refine ve_lt ?_)
      | (with_reducible refine ve_le ?_)
      | (with_reducible refine ve_gt ?_)
      | (with_reducible refine ve_ge ?_)
    | (with_reducible refine ve_ch_ll ?_)
    | (with_reducible refine ve_ch_lt ?_)
    | (with_reducible refine g_call "len" ?_); refine ve_lenA rfl (by assumption) ?_
    | (with_reducible refine g_call "abs" ?_); refine ve_abs rfl (by assumption) ?_
    | (with_reducible refine g_call "int" ?_); refine ve_int1 rfl (by assumption) ?_
    | (with_reducible refine g_call "sum" ?_); refine ve_sum rfl (by assumption) ?_
    | (with_reducible refine g_ofrg "tuple" ?_); refine ve_tupRg rfl (by assumption) rfl (by assumption) ?_
    | (with_reducible refine g_ofrg "list" ?_); refine ve_listRg rfl (by assumption) rfl (by assumption) ?_
    | (with_reducible refine g_call "tuple" ?_); refine ve_tupleOf rfl (by assumption) ?_
    | (with_reducible refine g_call "list" ?_); refine ve_listOf rfl (by assumption) ?_
    | (with_reducible refine g_call "repr" ?_); refine ve_repr (by assumption) (by assumption) rfl (by assumption) ?_
    | (with_reducible refine g_call "all" ?_); refine ve_all rfl (by assumption) ?_
    | (with_reducible refine g_call "any" ?_); refine ve_any rfl (by assumption) ?_
    | (with_reducible refine g_two "min" ?_); refine ve_min2 rfl (by assumption) ?_
    | (with_reducible refine g_two "max" ?_); refine ve_max2 rfl (by assumption) ?_
    | (with_reducible refine g_one "max" ?_); refine ve_maxL (by assumption) rfl (by assumption) ?_
    | (with_reducible refine g_one "min" ?_); refine ve_minL (by assumption) rfl (by assumption) ?_
    | (with_reducible refine g_isi "int" ?_); refine ve_isi "int" rfl (by assumption) ?_
    | (with_reducible refine g_isi "bool" ?_); refine ve_isi "bool" rfl (by assumption) ?_
    | (with_reducible refine g_isi "tuple" ?_); refine ve_isi "tuple" rfl (by assumption) ?_
    | (with_reducible refine g_isi "list" ?_); refine ve_isi "list" rfl (by assumption) ?_
    | (with_reducible refine g_isi "str" ?_); refine ve_isi "str" rfl (by assumption) ?_
    | (with_reducible refine g_meth "append" ?_); refine ve_append ?_
    | (with_reducible refine g_meth "extend" ?_); refine ve_extend ?_
    | (with_reducible refine g_meth "pop" ?_); refine ve_popAt ?_
    | (with_reducible refine g_meth "count" ?_); refine ve_count (by assumption) ?_
    | (with_reducible refine g_meth "index" ?_); refine ve_index (by assumption) ?_
    | (with_reducible refine g_calln ?_); refine ve_c (by assumption) (by assumption) (by assumption) rfl rfl ?_
    | (with_reducible refine g_calln ?_); refine ve_mk (by assumption) (by assumption) (by assumption) rfl ?_
    | (with_reducible refine g_attr ?_); refine ve_fld ?_
    | (with_reducible refine ve_rev ?_)
    | refine ve_at (by assumption) ?_
    | (with_reducible refine ve_if ?_)
    | (with_reducible refine ve_tup ?_)
    | (with_reducible refine ve_lst ?_)
    | (with_reducible refine ve_dnewK ?_)
    | (with_reducible refine ve_not' ?_)
    | (with_reducible refine ve_neg' ?_)
    | (with_reducible refine ve_and' ?_)
    | (with_reducible refine ve_or' ?_)
    | (with_reducible refine ve_one ?_)
  | (with_reducible refine g_vt ?_); first
    | (with_reducible refine g_tcmp ?_); first
      | (with_reducible refine vt_eq (by assumption) ?_)
      | (with_reducible refine vt_ne (by assumption) ?_)
      | (with_reducible refine vt_lt ?_)
      | (with_reducible refine vt_le ?_)
      | (with_reducible refine vt_gt ?_)
      | (with_reducible refine vt_ge ?_)
    | (with_reducible refine vt_ch_ll ?_)
    | (with_reducible refine vt_ch_lt ?_)
    | (with_reducible refine vt_not ?_)
    | (with_reducible refine VW.vt (vw_and ?_))
    | (with_reducible refine VW.vt (vw_or ?_))
    | refine vt_bl ?_
  | (with_reducible refine g_vw ?_); with_reducible first
    | refine vw_and ?_
    | refine vw_or ?_
    | refine vw_and1 ?_
    | refine vw_or1 ?_
  | (with_reducible refine g_va ?_); first
    | (with_reducible refine va_nil ?_)
    | refine va_cons ?_
  | (with_reducible refine g_vb ?_); with_reducible first
    | refine vb_nil ?_
    | refine vb_cons ?_
  | (with_reducible refine g_vs ?_); first
    | (with_reducible refine g_set ?_); first
      | refine vs_set (i := 0) (by assumption) rfl (by first | exact Or.inl rfl | exact Or.inr rfl) rfl ?_
      | refine vs_set (i := 1) (by assumption) rfl (by first | exact Or.inl rfl | exact Or.inr rfl) rfl ?_
      | refine vs_set (i := 2) (by assumption) rfl (by first | exact Or.inl rfl | exact Or.inr rfl) rfl ?_
      | refine vs_set (i := 3) (by assumption) rfl (by first | exact Or.inl rfl | exact Or.inr rfl) rfl ?_
      | refine vs_set (i := 4) (by assumption) rfl (by first | exact Or.inl rfl | exact Or.inr rfl) rfl ?_
      | refine vs_set (i := 5) (by assumption) rfl (by first | exact Or.inl rfl | exact Or.inr rfl) rfl ?_
      | refine vs_set (i := 6) (by assumption) rfl (by first | exact Or.inl rfl | exact Or.inr rfl) rfl ?_
      | refine vs_set (i := 7) (by assumption) rfl (by first | exact Or.inl rfl | exact Or.inr rfl) rfl ?_
      | refine vs_set (i := 8) (by assumption) rfl (by first | exact Or.inl rfl | exact Or.inr rfl) rfl ?_
      | refine vs_set (i := 9) (by assumption) rfl (by first | exact Or.inl rfl | exact Or.inr rfl) rfl ?_
      | refine vs_set (i := 10) (by assumption) rfl (by first | exact Or.inl rfl | exact Or.inr rfl) rfl ?_
      | refine vs_set (i := 11) (by assumption) rfl (by first | exact Or.inl rfl | exact Or.inr rfl) rfl ?_
      | refine vs_set (i := 12) (by assumption) rfl (by first | exact Or.inl rfl | exact Or.inr rfl) rfl ?_
      | refine vs_set (i := 13) (by assumption) rfl (by first | exact Or.inl rfl | exact Or.inr rfl) rfl ?_
      | refine vs_set (i := 14) (by assumption) rfl (by first | exact Or.inl rfl | exact Or.inr rfl) rfl ?_
      | refine vs_set (i := 15) (by assumption) rfl (by first | exact Or.inl rfl | exact Or.inr rfl) rfl ?_
    | (with_reducible refine g_aug ?_); first
      | refine vs_add 0 (by assumption) rfl (by first | exact Or.inl rfl | exact Or.inr rfl) rfl rfl ?_
      | refine vs_add 1 (by assumption) rfl (by first | exact Or.inl rfl | exact Or.inr rfl) rfl rfl ?_
      | refine vs_add 2 (by assumption) rfl (by first | exact Or.inl rfl | exact Or.inr rfl) rfl rfl ?_
      | refine vs_add 3 (by assumption) rfl (by first | exact Or.inl rfl | exact Or.inr rfl) rfl rfl ?_
      | refine vs_add 4 (by assumption) rfl (by first | exact Or.inl rfl | exact Or.inr rfl) rfl rfl ?_
      | refine vs_add 5 (by assumption) rfl (by first | exact Or.inl rfl | exact Or.inr rfl) rfl rfl ?_
      | refine vs_add 6 (by assumption) rfl (by first | exact Or.inl rfl | exact Or.inr rfl) rfl rfl ?_
      | refine vs_add 7 (by assumption) rfl (by first | exact Or.inl rfl | exact Or.inr rfl) rfl rfl ?_
      | refine vs_add 8 (by assumption) rfl (by first | exact Or.inl rfl | exact Or.inr rfl) rfl rfl ?_
      | refine vs_add 9 (by assumption) rfl (by first | exact Or.inl rfl | exact Or.inr rfl) rfl rfl ?_
      | refine vs_add 10 (by assumption) rfl (by first | exact Or.inl rfl | exact Or.inr rfl) rfl rfl ?_
      | refine vs_add 11 (by assumption) rfl (by first | exact Or.inl rfl | exact Or.inr rfl) rfl rfl ?_
      | refine vs_add 12 (by assumption) rfl (by first | exact Or.inl rfl | exact Or.inr rfl) rfl rfl ?_
      | refine vs_add 13 (by assumption) rfl (by first | exact Or.inl rfl | exact Or.inr rfl) rfl rfl ?_
      | refine vs_add 14 (by assumption) rfl (by first | exact Or.inl rfl | exact Or.inr rfl) rfl rfl ?_
      | refine vs_add 15 (by assumption) rfl (by first | exact Or.inl rfl | exact Or.inr rfl) rfl rfl ?_
    | (with_reducible refine g_fset ?_); refine vs_fld (i := 0) rfl (.inl rfl) (by decide) (by decide) ?_
    | (with_reducible refine g_put ?_); refine vs_put ?_
    | (with_reducible refine vs_ife ?_)
    | refine vs_ret ?_
    | refine vs_expr ?_
    | (with_reducible refine vs_pass ?_)
  | (with_reducible refine g_vps ?_); first
    | (with_reducible refine vps_nil ?_)
    | refine vps_cons ?_
  | (with_reducible refine g_nx ?_); first
    | refine vb_nil ?_
    | refine vb_cons ?_
  | (with_reducible refine g_rt ?_); first
    | refine rt_d ?_
    | refine rt_n ?_
    | refine rt_s rfl rfl ?_
  | (with_reducible refine g_stored ?_); first
    | refine st_d ?_
    | refine st_n ?_
  | (with_reducible refine g_sa ?_); first
    | refine sa_nil ?_
    | refine sa_d ?_
    | refine sa_n ?_
  | (with_reducible refine g_nos ?_); first
    | exact noS_d
    | exact noS_n
  | (with_reducible refine g_len ?_); rfl
  | (with_reducible refine g_pmake ?_); first
    | refine pmake_mk (so0 rfl) ?_
    | refine pmake_mk (so1 rfl rfl) ?_
  | (with_reducible refine g_pcall ?_); first
    | refine pcall_mk (so0 rfl) ?_
    | refine pcall_mk (so1 rfl rfl) ?_
    | refine pcall_mk (so2 rfl (by decide) rfl rfl) ?_
  | (with_reducible refine g_prg ?_); refine prg_mk (by omega) (by omega) ?_
  | (with_reducible refine g_pfld ?_); refine pfld_mk (by assumption) (by assumption) rfl ?_
  | (with_reducible refine g_pfst ?_); refine pfst_mk rfl (by assumption) (by assumption) (Nat.le_of_ble_eq_true rfl) ?_
  | (with_reducible refine g_plenA ?_); first
    | refine PLen.seq rfl ?_
    | refine PLen.dct rfl ?_
  | (with_reducible refine g_pbs ?_); refine pbs_mk rfl ?_
  | (with_reducible refine g_ptup ?_); first
    | refine ptupL rfl ?_
    | refine ptupT rfl ?_
  | (with_reducible refine g_plst ?_); refine plst_mk rfl ?_
  | (with_reducible refine g_psum ?_); refine psum_mk rfl ?_
  | (with_reducible refine g_prev ?_); first
    | refine prev_lst rfl ?_
    | refine prev_tup rfl ?_
    | refine PRevA.lst rfl ?_
    | refine PRevA.tup rfl ?_
  | (with_reducible refine g_pbo ?_); refine PBo.mk ?_ ?_
  | (with_reducible refine g_pneg ?_); refine PNeg.mk ?_
  | (with_reducible refine g_rch ?_); refine RCh.mk ?_ ?_
  | (with_reducible refine g_pi2 ?_); refine pi2_mk ?_
  | (with_reducible refine g_pi1 ?_); refine pi1_mk ?_
  | (with_reducible refine g_pisi ?_); refine pisi_mk rfl rfl (by first | exact kit_t (by decide) | exact kit_f (by decide)) ?_
  | (with_reducible refine g_tl ?_); refine tl_mk rfl
  | (with_reducible refine g_tls ?_); exact ⟨_, rfl⟩
  | (with_reducible refine g_rcnt ?_); refine rcntB rfl ?_
  | (with_reducible refine g_rds ?_); first
    | refine rds1 ?_
    | refine rds2 ?_
    | refine rds3 ?_
    | refine rds4 ?_
    | refine rds5 ?_
    | refine rds0 ?_
    | refine rds6 ?_
  | (with_reducible refine g_vbx ?_); with_reducible first
    | refine vbx_nil ?_
    | refine vbx_cons ?_
  | (with_reducible refine g_vsx ?_); first
    | (with_reducible refine g_raise ?_); refine vsx_raise rfl (by assumption) (by assumption) rfl ?_
    | (with_reducible refine g_ifx ?_); (with_reducible refine vsx_if (by assumption) ?_)
    | (with_reducible refine g_exprx ?_); refine vsx_expr ?_
    | (with_reducible refine vsx_of (by assumption) ?_)
  | (with_reducible refine g_vex ?_); first
    | refine vex_c (by assumption) (by assumption) (by assumption) (by assumption) rfl rfl ?_
    | (with_reducible refine vex_of (by assumption) ?_)
  | (with_reducible refine g_pcx ?_); first
    | refine pcx1 ?_
    | refine pcx2 ?_
    | refine pcx3 ?_
  | (with_reducible exact ft_)
  | (with_reducible exact tf_)
  | (with_reducible refine tt_ ?_)
  | (with_reducible refine ff_ ?_)
  | (with_reducible refine And.intro ?_ ?_)
  | (with_reducible refine g_qb ?_)
  | (with_reducible intro hh); (try simp only [id, Bool.not_true, Bool.not_false, decide_eq_true_eq, decide_eq_false_iff_not, Bool.not_eq_true', Bool.not_eq_false', reduceCtorEq, not_true_eq_false] at hh)
  | (with_reducible refine g_rplus ?_); refine RPlus.int ?_
  | (with_reducible refine g_rsub ?_); refine RSub.int ?_
  | (with_reducible refine g_rtimes ?_); refine RTimes.int (by first | exact .inl ⟨by omega, by omega⟩ | exact .inr ⟨by omega, by omega⟩) ?_
  | (with_reducible refine g_rdiv ?_); refine RDivI.int (by omega) (by omega) ?_
  | (with_reducible refine g_rmod ?_); refine RModI.int (by first | omega | decide) ?_
  | (with_reducible refine g_rpow ?_); refine RPowI.int (by decide) (by decide) ?_
  | (with_reducible refine g_rc2 ?_); refine RC2.int ?_
  | (with_reducible refine g_rq ?_); first
    | refine RQ.int ?_
    | refine RQ.str ?_
    | refine rq_tup rfl rfl ?_
    | refine rq_lst rfl rfl ?_
  | (with_reducible refine g_rat ?_); first
    | refine RAt.seq rfl (by first | assumption | exact at0 | exact at1 | exact at2 | exact at3 | exact at4) ?_
    | refine RAt.dct rfl rfl (by assumption) ?_
  | (with_reducible refine g_rput ?_); refine put5 rfl rfl (by omega) (by omega) ?_)
section
variable {P : Program} {w : World} {K : PySem.W.Frag} {mg : Str → Option Value} {base : Heap}
theorem okx_check_laying {f : Addr} {fd : FuncData} (gb : BI mg) (F : L2.Fun K "check_laying" "check_laying" (topS 15) f fd) (hm : mg "check_laying" = some (.ref f)) (b : Binds K fd ["thing"] []) {CL EL : Addr} (mL : mg "Laying" = some (.ref CL)) (eL : EC K mg "NoLaying" EL) : CalX P w K mg base 1 "check_laying" 1 (spNoI CL EL K) := by
  have ⟨m_len, m_int, m_abs, m_sum, m_tuple, m_list, m_repr, m_range, m_isi, m_all, m_max, m_min, m_enum, m_bool, m_any, m_sorted, m_zip, m_set, m_str⟩ := gb
  refine calx0 F hm b rfl sc_check_laying ?_
  rintro cdv A outer s H E its α R XR hr hgd0 ⟨x, rfl, ⟨n, hx, hk⟩, q⟩
  have hu : (bcx P w K mg base ["thing"] "check_laying" (topS 15) f cdv A outer s H E).A.units + 64 < cLine := hr.units
  have hu1 : (bcx P w K mg base ["thing"] "check_laying" (topS 15) f cdv A outer s H E).A.units + 1 < cLine := hu_of hr
  have hu65 : (bcx P w K mg base ["thing"] "check_laying" (topS 15) f cdv A outer s H E).A.units + 65 < cLine := room65 hr
  have hgd : (bcx P w K mg base ["thing"] "check_laying" (topS 15) f cdv A outer s H E).A.guards = some [] := hgd0
  have hN : (bcx P w K mg base ["thing"] "check_laying" (topS 15) f cdv A outer s H E).N.Nodup := sc_check_laying.nd
  have hnx : NoX (bcx P w K mg base ["thing"] "check_laying" (topS 15) f cdv A outer s H E) := ⟨rfl, fun _ _ z => z⟩
  have eLk := eL.k
  have eLg := eL.g
  refine vbx_cons ?_
  repeat' ac_rfl
  refine ve_isC CL rfl m_isi ?_
  repeat' ac_rfl
  refine ⟨rfl, .inr ⟨x, n, rfl, hx, hk, ?_⟩⟩
  repeat' ac_rfl
  exact q
end
end K80
set_option Elab.async false
set_option linter.all false
set_option maxRecDepth 100000
set_option maxHeartbeats 4000000
namespace K80
open PySem PySem.Spec PyProof.Rows L2 AV LB
local macro_rules | `(tactic| ac_rfl) => `(tactic| first
  | (with_reducible refine g_ve ?_); first
    | (with_reducible refine g_name ?_); first
      | refine vv 0 rfl ?_
      | refine vv 1 rfl ?_
      | refine vv 2 rfl ?_
      | refine vv 3 rfl ?_
      | refine vv 4 rfl ?_
      | refine vv 5 rfl ?_
      | refine vv 6 rfl ?_
      | refine vv 7 rfl ?_
      | refine vv 8 rfl ?_
      | refine vv 9 rfl ?_
      | refine vv 10 rfl ?_
      | refine vv 11 rfl ?_
      | refine vv 12 rfl ?_
      | refine vv 13 rfl ?_
      | refine vv 14 rfl ?_
      | refine vv 15 rfl ?_
      | refine ve_ty "int" rfl (by assumption) bb_int ?_
      | refine ve_ty "tuple" rfl (by assumption) bb_tuple ?_
      | refine ve_ty "bool" rfl (by assumption) bb_bool ?_
      | refine ve_ty "list" rfl (by assumption) bb_list ?_
      | refine ve_ty "str" rfl (by assumption) bb_str ?_
      | refine ve_gint rfl (by assumption) (by decide) ?_
      | refine ve_gref rfl (by assumption) (by decide) ?_
    | (with_reducible refine g_con ?_); with_reducible first
      | refine ve_int ?_
      | refine ve_bl ?_
      | refine ve_non ?_
      | refine ve_str ?_
    | (with_reducible refine g_bin ?_); with_reducible first
      | refine ve_plus ?_
      | refine ve_minus ?_
      | refine ve_times ?_
      | refine ve_fdiv ?_
      | refine ve_mod ?_
      | refine ve_pow ?_
    | (with_reducible refine g_cmp ?_); first
      | (with_reducible refine ve_eq (by assumption) ?_)
      | (with_reducible refine ve_ne (by assumption) ?_)
      | (with_reducible refine ve_lt ?_)
      | (with_reducible refine ve_le ?_)
      | (with_reducible refine ve_gt ?_)
      | (with_reducible refine ve_ge ?_)
    | (with_reducible refine ve_ch_ll ?_)
    | (with_reducible refine ve_ch_lt ?_)
    | (with_reducible refine g_call "len" ?_); refine ve_lenA rfl (by assumption) ?_
    | (with_reducible refine g_call "abs" ?_); refine ve_abs rfl (by assumption) ?_
    | (with_reducible refine g_call "int" ?_); refine ve_int1 rfl (by assumption) ?_
    | (with_reducible refine g_call "sum" ?_); refine ve_sum rfl (by assumption) ?_
    | (with_reducible refine g_ofrg "tuple" ?_); refine ve_tupRg rfl (by assumption) rfl (by assumption) ?_
    | (with_reducible refine g_ofrg "list" ?_); refine ve_listRg rfl (by assumption) rfl (by assumption) ?_
    | (with_reducible refine g_call "tuple" ?_); refine ve_tupleOf rfl (by assumption) ?_
    | (with_reducible refine g_call "list" ?_); refine ve_listOf rfl (by assumption) ?_
    | (with_reducible refine g_call "repr" ?_); refine ve_repr (by assumption) (by assumption) rfl (by assumption) ?_
    | (with_reducible refine g_call "all" ?_); refine ve_all rfl (by assumption) ?_
    | (with_reducible refine g_call "any" ?_); refine ve_any rfl (by assumption) ?_
    | (with_reducible refine g_two "min" ?_); refine ve_min2 rfl (by assumption) ?_
    | (with_reducible refine g_two "max" ?_); refine ve_max2 rfl (by assumption) ?_
    | (with_reducible refine g_one "max" ?_); refine ve_maxL (by assumption) rfl (by assumption) ?_
    | (with_reducible refine g_one "min" ?_); refine ve_minL (by assumption) rfl (by assumption) ?_
    | (with_reducible refine g_isi "int" ?_); refine ve_isi "int" rfl (by assumption) ?_
    | (with_reducible refine g_isi "bool" ?_); refine ve_isi "bool" rfl (by assumption) ?_
    | (with_reducible refine g_isi "tuple" ?_); refine ve_isi "tuple" rfl (by assumption) ?_
    | (with_reducible refine g_isi "list" ?_); refine ve_isi "list" rfl (by assumption) ?_
    | (with_reducible refine g_isi "str" ?_); refine ve_isi "str" rfl (by assumption) ?_
    | (with_reducible refine g_meth "append" ?_); refine ve_append ?_
    | (with_reducible refine g_meth "extend" ?_); refine ve_extend ?_
    | (with_reducible refine g_meth "pop" ?_); refine ve_popAt ?_
    | (with_reducible refine g_meth "count" ?_); refine ve_count (by assumption) ?_
    | (with_reducible refine g_meth "index" ?_); refine ve_index (by assumption) ?_
    | (with_reducible refine g_calln ?_); refine ve_c (by assumption) (by assumption) (by assumption) rfl rfl ?_
    | (with_reducible refine g_calln ?_); refine ve_mk (by assumption) (by assumption) (by assumption) rfl ?_
    | (with_reducible refine g_attr ?_); refine ve_fld ?_
    | (with_reducible refine ve_rev ?_)
    | refine ve_at (by assumption) ?_
    | (with_reducible refine ve_if ?_)
    | (with_reducible refine ve_tup ?_)
    | (with_reducible refine ve_lst ?_)
    | (with_reducible refine ve_dnewK ?_)
    | (with_reducible refine ve_not' ?_)
    | (with_reducible refine ve_neg' ?_)
    | (with_reducible refine ve_and' ?_)
    | (with_reducible refine ve_or' ?_)
    | (with_reducible refine ve_one ?_)
  | (with_reducible refine g_vt ?_); first
    | (with_reducible refine g_tcmp ?_); first
      | (with_reducible refine vt_eq (by assumption) ?_)
      | (with_reducible refine vt_ne (by assumption) ?_)
      | (with_reducible refine vt_lt ?_)
      | (with_reducible refine vt_le ?_)
      | (with_reducible refine vt_gt ?_)
      | (with_reducible refine vt_ge ?_)
    | (with_reducible refine vt_ch_ll ?_)
    | (with_reducible refine vt_ch_lt ?_)
    | (with_reducible refine vt_not ?_)
    | (with_reducible refine VW.vt (vw_and ?_))
    | (with_reducible refine VW.vt (vw_or ?_))
    | refine vt_bl ?_
  | (with_reducible refine g_vw ?_); with_reducible first
    | refine vw_and ?_
    | refine vw_or ?_
    | refine vw_and1 ?_
    | refine vw_or1 ?_
  | (with_reducible refine g_va ?_); first
    | (with_reducible refine va_nil ?_)
    | refine va_cons ?_
  | (with_reducible refine g_vb ?_); with_reducible first
    | refine vb_nil ?_
    | refine vb_cons ?_
  | (with_reducible refine g_vs ?_); first
    | (with_reducible refine g_set ?_); first
      | refine vs_set (i := 0) (by assumption) rfl (by first | exact Or.inl rfl | exact Or.inr rfl) rfl ?_
      | refine vs_set (i := 1) (by assumption) rfl (by first | exact Or.inl rfl | exact Or.inr rfl) rfl ?_
      | refine vs_set (i := 2) (by assumption) rfl (by first | exact Or.inl rfl | exact Or.inr rfl) rfl ?_
      | refine vs_set (i := 3) (by assumption) rfl (by first | exact Or.inl rfl | exact Or.inr rfl) rfl ?_
      | refine vs_set (i := 4) (by assumption) rfl (by first | exact Or.inl rfl | exact Or.inr rfl) rfl ?_
      | refine vs_set (i := 5) (by assumption) rfl (by first | exact Or.inl rfl | exact Or.inr rfl) rfl ?_
      | refine vs_set (i := 6) (by assumption) rfl (by first | exact Or.inl rfl | exact Or.inr rfl) rfl ?_
      | refine vs_set (i := 7) (by assumption) rfl (by first | exact Or.inl rfl | exact Or.inr rfl) rfl ?_
      | refine vs_set (i := 8) (by assumption) rfl (by first | exact Or.inl rfl | exact Or.inr rfl) rfl ?_
      | refine vs_set (i := 9) (by assumption) rfl (by first | exact Or.inl rfl | exact Or.inr rfl) rfl ?_
      | refine vs_set (i := 10) (by assumption) rfl (by first | exact Or.inl rfl | exact Or.inr rfl) rfl ?_
      | refine vs_set (i := 11) (by assumption) rfl (by first | exact Or.inl rfl | exact Or.inr rfl) rfl ?_
      | refine vs_set (i := 12) (by assumption) rfl (by first | exact Or.inl rfl | exact Or.inr rfl) rfl ?_
      | refine vs_set (i := 13) (by assumption) rfl (by first | exact Or.inl rfl | exact Or.inr rfl) rfl ?_
      | refine vs_set (i := 14) (by assumption) rfl (by first | exact Or.inl rfl | exact Or.inr rfl) rfl ?_
      | refine vs_set (i := 15) (by assumption) rfl (by first | exact Or.inl rfl | exact Or.inr rfl) rfl ?_
    | (with_reducible refine g_aug ?_); first
      | refine vs_add 0 (by assumption) rfl (by first | exact Or.inl rfl | exact Or.inr rfl) rfl rfl ?_
      | refine vs_add 1 (by assumption) rfl (by first | exact Or.inl rfl | exact Or.inr rfl) rfl rfl ?_
      | refine vs_add 2 (by assumption) rfl (by first | exact Or.inl rfl | exact Or.inr rfl) rfl rfl ?_
      | refine vs_add 3 (by assumption) rfl (by first | exact Or.inl rfl | exact Or.inr rfl) rfl rfl ?_
      | refine vs_add 4 (by assumption) rfl (by first | exact Or.inl rfl | exact Or.inr rfl) rfl rfl ?_
      | refine vs_add 5 (by assumption) rfl (by first | exact Or.inl rfl | exact Or.inr rfl) rfl rfl ?_
      | refine vs_add 6 (by assumption) rfl (by first | exact Or.inl rfl | exact Or.inr rfl) rfl rfl ?_
      | refine vs_add 7 (by assumption) rfl (by first | exact Or.inl rfl | exact Or.inr rfl) rfl rfl ?_
      | refine vs_add 8 (by assumption) rfl (by first | exact Or.inl rfl | exact Or.inr rfl) rfl rfl ?_
      | refine vs_add 9 (by assumption) rfl (by first | exact Or.inl rfl | exact Or.inr rfl) rfl rfl ?_
      | refine vs_add 10 (by assumption) rfl (by first | exact Or.inl rfl | exact Or.inr rfl) rfl rfl ?_
      | refine vs_add 11 (by assumption) rfl (by first | exact Or.inl rfl | exact Or.inr rfl) rfl rfl ?_
      | refine vs_add 12 (by assumption) rfl (by first | exact Or.inl rfl | exact Or.inr rfl) rfl rfl ?_
      | refine vs_add 13 (by assumption) rfl (by first | exact Or.inl rfl | exact Or.inr rfl) rfl rfl ?_
      | refine vs_add 14 (by assumption) rfl (by first | exact Or.inl rfl | exact Or.inr rfl) rfl rfl ?_
      | refine vs_add 15 (by assumption) rfl (by first | exact Or.inl rfl | exact Or.inr rfl) rfl rfl ?_
    | (with_reducible refine g_fset ?_); refine vs_fld (i := 0) rfl (.inl rfl) (by decide) (by decide) ?_
    | (with_reducible refine g_put ?_); refine vs_put ?_
    | (with_reducible refine vs_ife ?_)
    | refine vs_ret ?_
    | refine vs_expr ?_
    | (with_reducible refine vs_pass ?_)
  | (with_reducible refine g_vps ?_); first
    | (with_reducible refine vps_nil ?_)
    | refine vps_cons ?_
  | (with_reducible refine g_nx ?_); first
    | refine vb_nil ?_
    | refine vb_cons ?_
  | (with_reducible refine g_rt ?_); first
    | refine rt_d ?_
    | refine rt_n ?_
    | refine rt_s rfl rfl ?_
  | (with_reducible refine g_stored ?_); first
    | refine st_d ?_
    | refine st_n ?_
  | (with_reducible refine g_sa ?_); first
    | refine sa_nil ?_
    | refine sa_d ?_
    | refine sa_n ?_
  | (with_reducible refine g_nos ?_); first
    | exact noS_d
    | exact noS_n
  | (with_reducible refine g_len ?_); rfl
  | (with_reducible refine g_pmake ?_); first
    | refine pmake_mk (so0 rfl) ?_
    | refine pmake_mk (so1 rfl rfl) ?_
  | (with_reducible refine g_pcall ?_); first
    | refine pcall_mk (so0 rfl) ?_
    | refine pcall_mk (so1 rfl rfl) ?_
    | refine pcall_mk (so2 rfl (by decide) rfl rfl) ?_
  | (with_reducible refine g_prg ?_); refine prg_mk (by omega) (by omega) ?_
  | (with_reducible refine g_pfld ?_); refine pfld_mk (by assumption) (by assumption) rfl ?_
  | (with_reducible refine g_pfst ?_); refine pfst_mk rfl (by assumption) (by assumption) (Nat.le_of_ble_eq_true rfl) ?_
  | (with_reducible refine g_plenA ?_); first
    | refine PLen.seq rfl ?_
    | refine PLen.dct rfl ?_
  | (with_reducible refine g_pbs ?_); refine pbs_mk rfl ?_
  | (with_reducible refine g_ptup ?_); first
    | refine ptupL rfl ?_
    | refine ptupT rfl ?_
  | (with_reducible refine g_plst ?_); refine plst_mk rfl ?_
  | (with_reducible refine g_psum ?_); refine psum_mk rfl ?_
  | (with_reducible refine g_prev ?_); first
    | refine prev_lst rfl ?_
    | refine prev_tup rfl ?_
    | refine PRevA.lst rfl ?_
    | refine PRevA.tup rfl ?_
  | (with_reducible refine g_pbo ?_); refine PBo.mk ?_ ?_
  | (with_reducible refine g_pneg ?_); refine PNeg.mk ?_
  | (with_reducible refine g_rch ?_); refine RCh.mk ?_ ?_
  | (with_reducible refine g_pi2 ?_); refine pi2_mk ?_
  | (with_reducible refine g_pi1 ?_); refine pi1_mk ?_
  | (with_reducible refine g_pisi ?_); refine pisi_mk rfl rfl (by first | exact kit_t (by decide) | exact kit_f (by decide)) ?_
  | (with_reducible refine g_tl ?_); refine tl_mk rfl
  | (with_reducible refine g_tls ?_); exact ⟨_, rfl⟩
  | (with_reducible refine g_rcnt ?_); refine rcntB rfl ?_
  | (with_reducible refine g_rds ?_); first
    | refine rds1 ?_
    | refine rds2 ?_
    | refine rds3 ?_
    | refine rds4 ?_
    | refine rds5 ?_
    | refine rds0 ?_
    | refine rds6 ?_
  | (with_reducible refine g_vbx ?_); with_reducible first
    | refine vbx_nil ?_
    | refine vbx_cons ?_
  | (with_reducible refine g_vsx ?_); first
    | (with_reducible refine g_raise ?_); refine vsx_raise rfl (by assumption) (by assumption) rfl ?_
    | (with_reducible refine g_ifx ?_); (with_reducible refine vsx_if (by assumption) ?_)
    | (with_reducible refine g_exprx ?_); refine vsx_expr ?_
    | (with_reducible refine vsx_of (by assumption) ?_)
  | (with_reducible refine g_vex ?_); first
    | refine vex_c (by assumption) (by assumption) (by assumption) (by assumption) rfl rfl ?_
    | (with_reducible refine vex_of (by assumption) ?_)
  | (with_reducible refine g_pcx ?_); first
    | refine pcx1 ?_
    | refine pcx2 ?_
    | refine pcx3 ?_
  | (with_reducible exact ft_)
  | (with_reducible exact tf_)
  | (with_reducible refine tt_ ?_)
  | (with_reducible refine ff_ ?_)
  | (with_reducible refine And.intro ?_ ?_)
  | (with_reducible refine g_qb ?_)
  | (with_reducible intro hh); (try simp only [id, Bool.not_true, Bool.not_false, decide_eq_true_eq, decide_eq_false_iff_not, Bool.not_eq_true', Bool.not_eq_false', reduceCtorEq, not_true_eq_false] at hh)
  | (with_reducible refine g_rplus ?_); refine RPlus.int ?_
  | (with_reducible refine g_rsub ?_); refine RSub.int ?_
  | (with_reducible refine g_rtimes ?_); refine RTimes.int (by first | exact .inl ⟨by omega, by omega⟩ | exact .inr ⟨by omega, by omega⟩) ?_
  | (with_reducible refine g_rdiv ?_); refine RDivI.int (by omega) (by omega) ?_
  | (with_reducible refine g_rmod ?_); refine RModI.int (by first | omega | decide) ?_
  | (with_reducible refine g_rpow ?_); refine RPowI.int (by decide) (by decide) ?_
  | (with_reducible refine g_rc2 ?_); refine RC2.int ?_
  | (with_reducible refine g_rq ?_); first
    | refine RQ.int ?_
    | refine RQ.str ?_
    | refine rq_tup rfl rfl ?_
    | refine rq_lst rfl rfl ?_
  | (with_reducible refine g_rat ?_); first
    | refine RAt.seq rfl (by first | assumption | exact at0 | exact at1 | exact at2 | exact at3 | exact at4) ?_
    | refine RAt.dct rfl rfl (by assumption) ?_
  | (with_reducible refine g_rput ?_); refine put5 rfl rfl (by omega) (by omega) ?_)
section
variable {P : Program} {w : World} {K : PySem.W.Frag} {mg : Str → Option Value} {base : Heap}
theorem ok_row_bounds {f : Addr} {fd : FuncData} (gb : BI mg) (F : L2.Fun K "row_bounds" "row_bounds" (topS 20) f fd) (hm : mg "row_bounds" = some (.ref f)) (b : Binds K fd ["laying", "row"] []) {CL : Addr} (L : LC K CL) (c0 : CalV P w K mg base 3 "check_row" 2 (spChkRow CL)) : CalV P w K mg base 4 "row_bounds" 2 (spRB CL) := by
  have ⟨m_len, m_int, m_abs, m_sum, m_tuple, m_list, m_repr, m_range, m_isi, m_all, m_max, m_min, m_enum, m_bool, m_any, m_sorted, m_zip, m_set, m_str⟩ := gb
  refine calv0 F hm b rfl sc_row_bounds ?_
  rintro cdv A outer s H E its α R hr hgd0 ⟨ls, os, row, rfl, okl, ok, okr, q⟩
  have hu : (bcx P w K mg base ["laying", "row", "place", "least", "most", "turn", "total", "here"] "row_bounds" (topS 20) f cdv A outer s H E).A.units + 64 < cLine := hr.units
  have hu1 : (bcx P w K mg base ["laying", "row", "place", "least", "most", "turn", "total", "here"] "row_bounds" (topS 20) f cdv A outer s H E).A.units + 1 < cLine := hu_of hr
  have hu65 : (bcx P w K mg base ["laying", "row", "place", "least", "most", "turn", "total", "here"] "row_bounds" (topS 20) f cdv A outer s H E).A.units + 65 < cLine := room65 hr
  have hgd : (bcx P w K mg base ["laying", "row", "place", "least", "most", "turn", "total", "here"] "row_bounds" (topS 20) f cdv A outer s H E).A.guards = some [] := hgd0
  have hN : (bcx P w K mg base ["laying", "row", "place", "least", "most", "turn", "total", "here"] "row_bounds" (topS 20) f cdv A outer s H E).N.Nodup := sc_row_bounds.nd
  have hnx : NoX (bcx P w K mg base ["laying", "row", "place", "least", "most", "turn", "total", "here"] "row_bounds" (topS 20) f cdv A outer s H E) := ⟨rfl, fun _ _ z => z⟩
  have ⟨⟨hcl, _, _, _, _, _⟩, n1, n2, n3, n4, n5⟩ := L
  have okg := goalF_ok okl ok
  have hsum := okl.sum
  have hgl := okg.len
  have hrl := okr.len
  refine vb_cons ?_
  repeat' ac_rfl
  refine ⟨ls, os, row, rfl, okl, okr, ?_⟩
  refine vb_cons (vs_pair (i := 3) (j := 4) rfl hN rfl rfl (.inl rfl) (.inl rfl) rfl rfl ?_)
  repeat' ac_rfl
  refine ⟨_, _, rfl, ?_⟩
  repeat' ac_rfl
  refine vs_for (tf_name (i := 2) hN rfl (.inl rfl)) (fun i hi => by simp at hi; subst hi; rfl) (vi_rg1 rfl m_range ?_) rfl
  repeat' ac_rfl
  generalize hG : goalF ls os = gs at *
  refine ⟨ls.sum, rfl, by omega, by omega, fun i Γ => ∃ x2 x5 x6 x7, Γ = [some (.d (lay CL ls os)), some (.d (tI row)), x2, some (.d (.int (outB gs row gs.length i).le)), some (.d (.int (outB gs row gs.length i).mo)), x5, x6, x7], ⟨none, none, none, none, rfl⟩, ?_, ?_⟩
  · rintro i x Γ' hx ⟨x2, x5, x6, x7, rfl⟩
    obtain ⟨rfl, hi⟩ := rg_get hx
    refine ⟨_, rfl, vb_cons (vs_par2 (i := 6) (j := 7) rfl hN rfl rfl (by decide) rfl rfl rfl rfl ?_)⟩
    repeat' ac_rfl
    refine vs_for (tf_name (i := 5) hN rfl (.inl rfl)) (fun i hi => by simp at hi; subst hi; rfl) (vi_rg1 rfl m_range ?_) rfl
    repeat' ac_rfl
    refine ⟨ls.sum, rfl, by omega, by omega, fun t Γ => ∃ x5, Γ = [some (.d (lay CL ls os)), some (.d (tI row)), some (.d (.int (i : Nat))), some (.d (.int (inB gs row t ⟨(outB gs row gs.length i).le, (outB gs row gs.length i).mo, 0, (i : Nat)⟩).le)), some (.d (.int (inB gs row t ⟨(outB gs row gs.length i).le, (outB gs row gs.length i).mo, 0, (i : Nat)⟩).mo)), x5, some (.d (.int (inB gs row t ⟨(outB gs row gs.length i).le, (outB gs row gs.length i).mo, 0, (i : Nat)⟩).to)), some (.d (.int (inB gs row t ⟨(outB gs row gs.length i).le, (outB gs row gs.length i).mo, 0, (i : Nat)⟩).he))], ⟨_, rfl⟩, ?_, ?_⟩
    · rintro t y Γ' hy ⟨x5, rfl⟩
      have hh := inB_he (row := row) okg (s := ⟨(outB gs row gs.length i).le, (outB gs row gs.length i).mo, 0, (i : Nat)⟩) ⟨by show (0 : Int) ≤ (i : Nat); omega, hi⟩ t
      have eS : inB gs row (t + 1) ⟨(outB gs row gs.length i).le, (outB gs row gs.length i).mo, 0, (i : Nat)⟩ = stB gs row (inB gs row t ⟨(outB gs row gs.length i).le, (outB gs row gs.length i).mo, 0, (i : Nat)⟩) := rfl
      obtain ⟨S, hS⟩ : ∃ S, inB gs row t ⟨(outB gs row gs.length i).le, (outB gs row gs.length i).mo, 0, (i : Nat)⟩ = S := ⟨_, rfl⟩
      rw [hS] at hh eS ⊢
      have a1 := at_F (gs := row) hh.1 (by omega)
      have a2 : atI ((goalF ls os).map D.int) S.he = some (.int (atF gs S.he)) := by rw [hG]; exact at_F hh.1 (by omega)
      refine ⟨_, rfl, vb_cons ?_⟩
      repeat' ac_rfl
      refine vs_par2 (i := 3) (j := 4) rfl hN rfl rfl (by decide) rfl rfl rfl rfl ?_
      repeat' ac_rfl
      exact ⟨_, by rw [eS]; rfl⟩
    · rintro Γ' ⟨x5, rfl⟩
      have eN : (rgD ls.sum).length = gs.length := by rw [rgD_I, List.length_map, rgI_length]; omega
      rw [eN]
      repeat' ac_rfl
      exact ⟨_, _, _, _, rfl⟩
  · rintro Γ' ⟨x2, x5, x6, x7, rfl⟩
    have eN : (rgD ls.sum).length = gs.length := by rw [rgD_I, List.length_map, rgI_length]; omega
    rw [eN]
    repeat' ac_rfl
    exact q
end
end K80
set_option Elab.async false
set_option linter.all false
set_option maxRecDepth 100000
set_option maxHeartbeats 4000000
namespace K80
open PySem PySem.Spec PyProof.Rows L2 AV LB
local macro_rules | `(tactic| ac_rfl) => `(tactic| first
  | (with_reducible refine g_ve ?_); first
    | (with_reducible refine g_name ?_); first
      | refine vv 0 rfl ?_
      | refine vv 1 rfl ?_
      | refine vv 2 rfl ?_
      | refine vv 3 rfl ?_
      | refine vv 4 rfl ?_
      | refine vv 5 rfl ?_
      | refine vv 6 rfl ?_
      | refine vv 7 rfl ?_
      | refine vv 8 rfl ?_
      | refine vv 9 rfl ?_
      | refine vv 10 rfl ?_
      | refine vv 11 rfl ?_
      | refine vv 12 rfl ?_
      | refine vv 13 rfl ?_
      | refine vv 14 rfl ?_
      | refine vv 15 rfl ?_
      | refine ve_ty "int" rfl (by assumption) bb_int ?_
      | refine ve_ty "tuple" rfl (by assumption) bb_tuple ?_
      | refine ve_ty "bool" rfl (by assumption) bb_bool ?_
      | refine ve_ty "list" rfl (by assumption) bb_list ?_
      | refine ve_ty "str" rfl (by assumption) bb_str ?_
      | refine ve_gint rfl (by assumption) (by decide) ?_
      | refine ve_gref rfl (by assumption) (by decide) ?_
    | (with_reducible refine g_con ?_); with_reducible first
      | refine ve_int ?_
      | refine ve_bl ?_
      | refine ve_non ?_
      | refine ve_str ?_
    | (with_reducible refine g_bin ?_); with_reducible first
      | refine ve_plus ?_
      | refine ve_minus ?_
      | refine ve_times ?_
      | refine ve_fdiv ?_
      | refine ve_mod ?_
      | refine ve_pow ?_
    | (with_reducible refine g_cmp ?_); first
      | (with_reducible refine ve_eq (by assumption) ?_)
      | (with_reducible refine ve_ne (by assumption) ?_)
      | (with_reducible refine ve_lt ?_)
      | (with_reducible refine ve_le ?_)
      | (with_reducible refine ve_gt ?_)
      | (with_reducible refine ve_ge ?_)
    | (with_reducible refine ve_ch_ll ?_)
    | (with_reducible refine ve_ch_lt ?_)
    | (with_reducible refine g_call "len" ?_); refine ve_lenA rfl (by assumption) ?_
    | (with_reducible refine g_call "abs" ?_); refine ve_abs rfl (by assumption) ?_
    | (with_reducible refine g_call "int" ?_); refine ve_int1 rfl (by assumption) ?_
    | (with_reducible refine g_call "sum" ?_); refine ve_sum rfl (by assumption) ?_
    | (with_reducible refine g_ofrg "tuple" ?_); refine ve_tupRg rfl (by assumption) rfl (by assumption) ?_
    | (with_reducible refine g_ofrg "list" ?_); refine ve_listRg rfl (by assumption) rfl (by assumption) ?_
    | (with_reducible refine g_call "tuple" ?_); refine ve_tupleOf rfl (by assumption) ?_
    | (with_reducible refine g_call "list" ?_); refine ve_listOf rfl (by assumption) ?_
    | (with_reducible refine g_call "repr" ?_); refine ve_repr (by assumption) (by assumption) rfl (by assumption) ?_
    | (with_reducible refine g_call "all" ?_); refine ve_all rfl (by assumption) ?_
    | (with_reducible refine g_call "any" ?_); refine ve_any rfl (by assumption) ?_
    | (with_reducible refine g_two "min" ?_); refine ve_min2 rfl (by assumption) ?_
    | (with_reducible refine g_two "max" ?_); refine ve_max2 rfl (by assumption) ?_
    | (with_reducible refine g_one "max" ?_); refine ve_maxL (by assumption) rfl (by assumption) ?_
    | (with_reducible refine g_one "min" ?_); refine ve_minL (by assumption) rfl (by assumption) ?_
    | (with_reducible refine g_isi "int" ?_); refine ve_isi "int" rfl (by assumption) ?_
    | (with_reducible refine g_isi "bool" ?_); refine ve_isi "bool" rfl (by assumption) ?_
    | (with_reducible refine g_isi "tuple" ?_); refine ve_isi "tuple" rfl (by assumption) ?_
    | (with_reducible refine g_isi "list" ?_); refine ve_isi "list" rfl (by assumption) ?_
    | (with_reducible refine g_isi "str" ?_); refine ve_isi "str" rfl (by assumption) ?_
    | (with_reducible refine g_meth "append" ?_); refine ve_append ?_
    | (with_reducible refine g_meth "extend" ?_); refine ve_extend ?_
    | (with_reducible refine g_meth "pop" ?_); refine ve_popAt ?_
    | (with_reducible refine g_meth "count" ?_); refine ve_count (by assumption) ?_
    | (with_reducible refine g_meth "index" ?_); refine ve_index (by assumption) ?_
    | (with_reducible refine g_calln ?_); refine ve_c (by assumption) (by assumption) (by assumption) rfl rfl ?_
    | (with_reducible refine g_calln ?_); refine ve_mk (by assumption) (by assumption) (by assumption) rfl ?_
    | (with_reducible refine g_attr ?_); refine ve_fld ?_
    | (with_reducible refine ve_rev ?_)
    | refine ve_at (by assumption) ?_
    | (with_reducible refine ve_if ?_)
    | (with_reducible refine ve_tup ?_)
    | (with_reducible refine ve_lst ?_)
    | (with_reducible refine ve_dnewK ?_)
    | (with_reducible refine ve_not' ?_)
    | (with_reducible refine ve_neg' ?_)
    | (with_reducible refine ve_and' ?_)
    | (with_reducible refine ve_or' ?_)
    | (with_reducible refine ve_one ?_)
  | (with_reducible refine g_vt ?_); first
    | (with_reducible refine g_tcmp ?_); first
      | (with_reducible refine vt_eq (by assumption) ?_)
      | (with_reducible refine vt_ne (by assumption) ?_)
      | (with_reducible refine vt_lt ?_)
      | (with_reducible refine vt_le ?_)
      | (with_reducible refine vt_gt ?_)
      | (with_reducible refine vt_ge ?_)
    | (with_reducible refine vt_ch_ll ?_)
    | (with_reducible refine vt_ch_lt ?_)
    | (with_reducible refine vt_not ?_)
    | (with_reducible refine VW.vt (vw_and ?_))
    | (with_reducible refine VW.vt (vw_or ?_))
    | refine vt_bl ?_
  | (with_reducible refine g_vw ?_); with_reducible first
    | refine vw_and ?_
    | refine vw_or ?_
    | refine vw_and1 ?_
    | refine vw_or1 ?_
  | (with_reducible refine g_va ?_); first
    | (with_reducible refine va_nil ?_)
    | refine va_cons ?_
  | (with_reducible refine g_vb ?_); with_reducible first
    | refine vb_nil ?_
    | refine vb_cons ?_
  | (with_reducible refine g_vs ?_); first
    | (with_reducible refine g_set ?_); first
      | refine vs_set (i := 0) (by assumption) rfl (by first | exact Or.inl rfl | exact Or.inr rfl) rfl ?_
      | refine vs_set (i := 1) (by assumption) rfl (by first | exact Or.inl rfl | exact Or.inr rfl) rfl ?_
      | refine vs_set (i := 2) (by assumption) rfl (by first | exact Or.inl rfl | exact Or.inr rfl) rfl ?_
      | refine vs_set (i := 3) (by assumption) rfl (by first | exact Or.inl rfl | exact Or.inr rfl) rfl ?_
      | refine vs_set (i := 4) (by assumption) rfl (by first | exact Or.inl rfl | exact Or.inr rfl) rfl ?_
      | refine vs_set (i := 5) (by assumption) rfl (by first | exact Or.inl rfl | exact Or.inr rfl) rfl ?_
      | refine vs_set (i := 6) (by assumption) rfl (by first | exact Or.inl rfl | exact Or.inr rfl) rfl ?_
      | refine vs_set (i := 7) (by assumption) rfl (by first | exact Or.inl rfl | exact Or.inr rfl) rfl ?_
      | refine vs_set (i := 8) (by assumption) rfl (by first | exact Or.inl rfl | exact Or.inr rfl) rfl ?_
      | refine vs_set (i := 9) (by assumption) rfl (by first | exact Or.inl rfl | exact Or.inr rfl) rfl ?_
      | refine vs_set (i := 10) (by assumption) rfl (by first | exact Or.inl rfl | exact Or.inr rfl) rfl ?_
      | refine vs_set (i := 11) (by assumption) rfl (by first | exact Or.inl rfl | exact Or.inr rfl) rfl ?_
      | refine vs_set (i := 12) (by assumption) rfl (by first | exact Or.inl rfl | exact Or.inr rfl) rfl ?_
      | refine vs_set (i := 13) (by assumption) rfl (by first | exact Or.inl rfl | exact Or.inr rfl) rfl ?_
      | refine vs_set (i := 14) (by assumption) rfl (by first | exact Or.inl rfl | exact Or.inr rfl) rfl ?_
      | refine vs_set (i := 15) (by assumption) rfl (by first | exact Or.inl rfl | exact Or.inr rfl) rfl ?_
    | (with_reducible refine g_aug ?_); first
      | refine vs_add 0 (by assumption) rfl (by first | exact Or.inl rfl | exact Or.inr rfl) rfl rfl ?_
      | refine vs_add 1 (by assumption) rfl (by first | exact Or.inl rfl | exact Or.inr rfl) rfl rfl ?_
      | refine vs_add 2 (by assumption) rfl (by first | exact Or.inl rfl | exact Or.inr rfl) rfl rfl ?_
      | refine vs_add 3 (by assumption) rfl (by first | exact Or.inl rfl | exact Or.inr rfl) rfl rfl ?_
      | refine vs_add 4 (by assumption) rfl (by first | exact Or.inl rfl | exact Or.inr rfl) rfl rfl ?_
      | refine vs_add 5 (by assumption) rfl (by first | exact Or.inl rfl | exact Or.inr rfl) rfl rfl ?_
      | refine vs_add 6 (by assumption) rfl (by first | exact Or.inl rfl | exact Or.inr rfl) rfl rfl ?_
      | refine vs_add 7 (by assumption) rfl (by first | exact Or.inl rfl | exact Or.inr rfl) rfl rfl ?_
      | refine vs_add 8 (by assumption) rfl (by first | exact Or.inl rfl | exact Or.inr rfl) rfl rfl ?_
      | refine vs_add 9 (by assumption) rfl (by first | exact Or.inl rfl | exact Or.inr rfl) rfl rfl ?_
      | refine vs_add 10 (by assumption) rfl (by first | exact Or.inl rfl | exact Or.inr rfl) rfl rfl ?_
      | refine vs_add 11 (by assumption) rfl (by first | exact Or.inl rfl | exact Or.inr rfl) rfl rfl ?_
      | refine vs_add 12 (by assumption) rfl (by first | exact Or.inl rfl | exact Or.inr rfl) rfl rfl ?_
      | refine vs_add 13 (by assumption) rfl (by first | exact Or.inl rfl | exact Or.inr rfl) rfl rfl ?_
      | refine vs_add 14 (by assumption) rfl (by first | exact Or.inl rfl | exact Or.inr rfl) rfl rfl ?_
      | refine vs_add 15 (by assumption) rfl (by first | exact Or.inl rfl | exact Or.inr rfl) rfl rfl ?_
    | (with_reducible refine g_fset ?_); refine vs_fld (i := 0) rfl (.inl rfl) (by decide) (by decide) ?_
    | (with_reducible refine g_put ?_); refine vs_put ?_
    | (with_reducible refine vs_ife ?_)
    | refine vs_ret ?_
    | refine vs_expr ?_
    | (with_reducible refine vs_pass ?_)
  | (with_reducible refine g_vps ?_); first
    | (with_reducible refine vps_nil ?_)
    | refine vps_cons ?_
  | (with_reducible refine g_nx ?_); first
    | refine vb_nil ?_
    | refine vb_cons ?_
  | (with_reducible refine g_rt ?_); first
    | refine rt_d ?_
    | refine rt_n ?_
    | refine rt_s rfl rfl ?_
  | (with_reducible refine g_stored ?_); first
    | refine st_d ?_
    | refine st_n ?_
  | (with_reducible refine g_sa ?_); first
    | refine sa_nil ?_
    | refine sa_d ?_
    | refine sa_n ?_
  | (with_reducible refine g_nos ?_); first
    | exact noS_d
    | exact noS_n
  | (with_reducible refine g_len ?_); rfl
  | (with_reducible refine g_pmake ?_); first
    | refine pmake_mk (so0 rfl) ?_
    | refine pmake_mk (so1 rfl rfl) ?_
  | (with_reducible refine g_pcall ?_); first
    | refine pcall_mk (so0 rfl) ?_
    | refine pcall_mk (so1 rfl rfl) ?_
    | refine pcall_mk (so2 rfl (by decide) rfl rfl) ?_
  | (with_reducible refine g_prg ?_); refine prg_mk (by omega) (by omega) ?_
  | (with_reducible refine g_pfld ?_); refine pfld_mk (by assumption) (by assumption) rfl ?_
  | (with_reducible refine g_pfst ?_); refine pfst_mk rfl (by assumption) (by assumption) (Nat.le_of_ble_eq_true rfl) ?_
  | (with_reducible refine g_plenA ?_); first
    | refine PLen.seq rfl ?_
    | refine PLen.dct rfl ?_
  | (with_reducible refine g_pbs ?_); refine pbs_mk rfl ?_
  | (with_reducible refine g_ptup ?_); first
    | refine ptupL rfl ?_
    | refine ptupT rfl ?_
  | (with_reducible refine g_plst ?_); refine plst_mk rfl ?_
  | (with_reducible refine g_psum ?_); refine psum_mk rfl ?_
  | (with_reducible refine g_prev ?_); first
    | refine prev_lst rfl ?_
    | refine prev_tup rfl ?_
    | refine PRevA.lst rfl ?_
    | refine PRevA.tup rfl ?_
  | (with_reducible refine g_pbo ?_); refine PBo.mk ?_ ?_
  | (with_reducible refine g_pneg ?_); refine PNeg.mk ?_
  | (with_reducible refine g_rch ?_); refine RCh.mk ?_ ?_
  | (with_reducible refine g_pi2 ?_); refine pi2_mk ?_
  | (with_reducible refine g_pi1 ?_); refine pi1_mk ?_
  | (with_reducible refine g_pisi ?_); refine pisi_mk rfl rfl (by first | exact kit_t (by decide) | exact kit_f (by decide)) ?_
  | (with_reducible refine g_tl ?_); refine tl_mk rfl
  | (with_reducible refine g_tls ?_); exact ⟨_, rfl⟩
  | (with_reducible refine g_rcnt ?_); refine rcntB rfl ?_
  | (with_reducible refine g_rds ?_); first
    | refine rds1 ?_
    | refine rds2 ?_
    | refine rds3 ?_
    | refine rds4 ?_
    | refine rds5 ?_
    | refine rds0 ?_
    | refine rds6 ?_
  | (with_reducible refine g_vbx ?_); with_reducible first
    | refine vbx_nil ?_
    | refine vbx_cons ?_
  | (with_reducible refine g_vsx ?_); first
    | (with_reducible refine g_raise ?_); refine vsx_raise rfl (by assumption) (by assumption) rfl ?_
    | (with_reducible refine g_ifx ?_); (with_reducible refine vsx_if (by assumption) ?_)
    | (with_reducible refine g_exprx ?_); refine vsx_expr ?_
    | (with_reducible refine vsx_of (by assumption) ?_)
  | (with_reducible refine g_vex ?_); first
    | refine vex_c (by assumption) (by assumption) (by assumption) (by assumption) rfl rfl ?_
    | (with_reducible refine vex_of (by assumption) ?_)
  | (with_reducible refine g_pcx ?_); first
    | refine pcx1 ?_
    | refine pcx2 ?_
    | refine pcx3 ?_
  | (with_reducible exact ft_)
  | (with_reducible exact tf_)
  | (with_reducible refine tt_ ?_)
  | (with_reducible refine ff_ ?_)
  | (with_reducible refine And.intro ?_ ?_)
  | (with_reducible refine g_qb ?_)
  | (with_reducible intro hh); (try simp only [id, Bool.not_true, Bool.not_false, decide_eq_true_eq, decide_eq_false_iff_not, Bool.not_eq_true', Bool.not_eq_false', reduceCtorEq, not_true_eq_false] at hh)
  | (with_reducible refine g_rplus ?_); refine RPlus.int ?_
  | (with_reducible refine g_rsub ?_); refine RSub.int ?_
  | (with_reducible refine g_rtimes ?_); refine RTimes.int (by first | exact .inl ⟨by omega, by omega⟩ | exact .inr ⟨by omega, by omega⟩) ?_
  | (with_reducible refine g_rdiv ?_); refine RDivI.int (by omega) (by omega) ?_
  | (with_reducible refine g_rmod ?_); refine RModI.int (by first | omega | decide) ?_
  | (with_reducible refine g_rpow ?_); refine RPowI.int (by decide) (by decide) ?_
  | (with_reducible refine g_rc2 ?_); refine RC2.int ?_
  | (with_reducible refine g_rq ?_); first
    | refine RQ.int ?_
    | refine RQ.str ?_
    | refine rq_tup rfl rfl ?_
    | refine rq_lst rfl rfl ?_
  | (with_reducible refine g_rat ?_); first
    | refine RAt.seq rfl (by first | assumption | exact at0 | exact at1 | exact at2 | exact at3 | exact at4) ?_
    | refine RAt.dct rfl rfl (by assumption) ?_
  | (with_reducible refine g_rput ?_); refine put5 rfl rfl (by omega) (by omega) ?_)
section
variable {P : Program} {w : World} {K : PySem.W.Frag} {mg : Str → Option Value} {base : Heap}
theorem okx_row_bounds {f : Addr} {fd : FuncData} (gb : BI mg) (F : L2.Fun K "row_bounds" "row_bounds" (topS 20) f fd) (hm : mg "row_bounds" = some (.ref f)) (b : Binds K fd ["laying", "row"] []) {CL EL ER : Addr} (cx : CalX P w K mg base 3 "check_row" 2 (spRowX CL EL ER K)) : CalX P w K mg base 4 "row_bounds" 2 (spRowX CL EL ER K) := by
  have ⟨m_len, m_int, m_abs, m_sum, m_tuple, m_list, m_repr, m_range, m_isi, m_all, m_max, m_min, m_enum, m_bool, m_any, m_sorted, m_zip, m_set, m_str⟩ := gb
  refine calx0 F hm b rfl sc_row_bounds ?_
  rintro cdv A outer s H E its α R XR hr hgd0 h
  have hu : (bcx P w K mg base ["laying", "row", "place", "least", "most", "turn", "total", "here"] "row_bounds" (topS 20) f cdv A outer s H E).A.units + 64 < cLine := hr.units
  have hu1 : (bcx P w K mg base ["laying", "row", "place", "least", "most", "turn", "total", "here"] "row_bounds" (topS 20) f cdv A outer s H E).A.units + 1 < cLine := hu_of hr
  have hu65 : (bcx P w K mg base ["laying", "row", "place", "least", "most", "turn", "total", "here"] "row_bounds" (topS 20) f cdv A outer s H E).A.units + 65 < cLine := room65 hr
  have hgd : (bcx P w K mg base ["laying", "row", "place", "least", "most", "turn", "total", "here"] "row_bounds" (topS 20) f cdv A outer s H E).A.guards = some [] := hgd0
  have hN : (bcx P w K mg base ["laying", "row", "place", "least", "most", "turn", "total", "here"] "row_bounds" (topS 20) f cdv A outer s H E).N.Nodup := sc_row_bounds.nd
  have hnx : NoX (bcx P w K mg base ["laying", "row", "place", "least", "most", "turn", "total", "here"] "row_bounds" (topS 20) f cdv A outer s H E) := ⟨rfl, fun _ _ z => z⟩
  have h2 := h
  rcases h with ⟨x, y, rfl, hx, q⟩ | ⟨ls, os, y, rfl, okl, hy, q⟩
  · refine vbx_cons ?_
    repeat' ac_rfl
    exact .inl ⟨x, y, rfl, hx, q⟩
  · refine vbx_cons ?_
    repeat' ac_rfl
    exact .inr ⟨ls, os, y, rfl, okl, hy, q⟩
theorem okx_shift_row {f : Addr} {fd : FuncData} (gb : BI mg) (F : L2.Fun K "shift_row" "shift_row" (topS 21) f fd) (hm : mg "shift_row" = some (.ref f)) (b : Binds K fd ["laying"] []) {CL EL : Addr} (cx : CalX P w K mg base 1 "check_laying" 1 (spNoI CL EL K)) : CalX P w K mg base 2 "shift_row" 1 (spNoI CL EL K) := by
  have ⟨m_len, m_int, m_abs, m_sum, m_tuple, m_list, m_repr, m_range, m_isi, m_all, m_max, m_min, m_enum, m_bool, m_any, m_sorted, m_zip, m_set, m_str⟩ := gb
  refine calx0 F hm b rfl sc_shift_row ?_
  rintro cdv A outer s H E its α R XR hr hgd0 ⟨x, rfl, hx, q⟩
  have hu : (bcx P w K mg base ["laying", "place", "goal"] "shift_row" (topS 21) f cdv A outer s H E).A.units + 64 < cLine := hr.units
  have hu1 : (bcx P w K mg base ["laying", "place", "goal"] "shift_row" (topS 21) f cdv A outer s H E).A.units + 1 < cLine := hu_of hr
  have hu65 : (bcx P w K mg base ["laying", "place", "goal"] "shift_row" (topS 21) f cdv A outer s H E).A.units + 65 < cLine := room65 hr
  have hgd : (bcx P w K mg base ["laying", "place", "goal"] "shift_row" (topS 21) f cdv A outer s H E).A.guards = some [] := hgd0
  have hN : (bcx P w K mg base ["laying", "place", "goal"] "shift_row" (topS 21) f cdv A outer s H E).N.Nodup := sc_shift_row.nd
  have hnx : NoX (bcx P w K mg base ["laying", "place", "goal"] "shift_row" (topS 21) f cdv A outer s H E) := ⟨rfl, fun _ _ z => z⟩
  refine vbx_cons ?_
  repeat' ac_rfl
  exact ⟨x, rfl, hx, q⟩
theorem ok_shift_row {f : Addr} {fd : FuncData} (gb : BI mg) (F : L2.Fun K "shift_row" "shift_row" (topS 21) f fd) (hm : mg "shift_row" = some (.ref f)) (b : Binds K fd ["laying"] []) {CL : Addr} (L : LC K CL) (c0 : CalV P w K mg base 1 "check_laying" 1 (spChk CL)) : CalV P w K mg base 2 "shift_row" 1 (spSR CL) := by
  have ⟨m_len, m_int, m_abs, m_sum, m_tuple, m_list, m_repr, m_range, m_isi, m_all, m_max, m_min, m_enum, m_bool, m_any, m_sorted, m_zip, m_set, m_str⟩ := gb
  refine calv0 F hm b rfl sc_shift_row ?_
  rintro cdv A outer s H E its α R hr hgd0 ⟨ls, os, rfl, okl, ok, q⟩
  have hu : (bcx P w K mg base ["laying", "place", "goal"] "shift_row" (topS 21) f cdv A outer s H E).A.units + 64 < cLine := hr.units
  have hu1 : (bcx P w K mg base ["laying", "place", "goal"] "shift_row" (topS 21) f cdv A outer s H E).A.units + 1 < cLine := hu_of hr
  have hu65 : (bcx P w K mg base ["laying", "place", "goal"] "shift_row" (topS 21) f cdv A outer s H E).A.units + 65 < cLine := room65 hr
  have hgd : (bcx P w K mg base ["laying", "place", "goal"] "shift_row" (topS 21) f cdv A outer s H E).A.guards = some [] := hgd0
  have hN : (bcx P w K mg base ["laying", "place", "goal"] "shift_row" (topS 21) f cdv A outer s H E).N.Nodup := sc_shift_row.nd
  have hnx : NoX (bcx P w K mg base ["laying", "place", "goal"] "shift_row" (topS 21) f cdv A outer s H E) := ⟨rfl, fun _ _ z => z⟩
  have ⟨⟨hcl, _, _, _, _, _⟩, n1, n2, n3, n4, n5⟩ := L
  have okg := goalF_ok okl ok
  have hsum := okl.sum
  have hgl := okg.len
  refine vb_cons ?_
  repeat' ac_rfl
  refine ⟨ls, os, rfl, ?_⟩
  repeat' ac_rfl
  refine ve_lc (own := [("place", 1), ("goal", 2)]) rfl hN (blkOk_by (N := ["laying", "place", "goal"]) (sc := defScope (topS 21)) (by decide +kernel)) (tb_pair rfl hN (by decide) rfl (.inl rfl) rfl (.inl rfl)) (pin2 rfl rfl) (vi_enumT rfl m_enum ?_)
  repeat' ac_rfl
  refine ⟨_, (goalF ls os).map D.int, rfl, .inl rfl, ?_⟩
  refine lc_mI ((goalF ls os).mapIdx fun i g => ((i : Int), g)) (fun p => D.tup [.int p.1, .int p.2]) (fun p => p.2 - p.1) (enD_pairs _) (by rw [List.length_mapIdx]; omega) rfl (fun n hn => ⟨_, ⟨_, _, rfl, rfl⟩, fun s H C cl fp => ?_⟩) ?_
  · repeat' ac_rfl
  have eu : ((goalF ls os).mapIdx fun i g => ((i : Int), g)).map (fun p => p.2 - p.1) = upF (goalF ls os) := by
    unfold upF
    apply List.ext_getElem?; intro i; simp; cases (goalF ls os)[i]? <;> rfl
  rw [eu]
  repeat' ac_rfl
  exact q
end
end K80
set_option Elab.async false
set_option linter.all false
set_option maxRecDepth 100000
set_option maxHeartbeats 4000000
namespace K80
open PySem PySem.Spec PyProof.Rows L2 AV LB
local macro_rules | `(tactic| ac_rfl) => `(tactic| first
  | (with_reducible refine g_ve ?_); first
    | (with_reducible refine g_name ?_); first
      | refine vv 0 rfl ?_
      | refine vv 1 rfl ?_
      | refine vv 2 rfl ?_
      | refine vv 3 rfl ?_
      | refine vv 4 rfl ?_
      | refine vv 5 rfl ?_
      | refine vv 6 rfl ?_
      | refine vv 7 rfl ?_
      | refine vv 8 rfl ?_
      | refine vv 9 rfl ?_
      | refine vv 10 rfl ?_
      | refine vv 11 rfl ?_
      | refine vv 12 rfl ?_
      | refine vv 13 rfl ?_
      | refine vv 14 rfl ?_
      | refine vv 15 rfl ?_
      | refine ve_ty "int" rfl (by assumption) bb_int ?_
      | refine ve_ty "tuple" rfl (by assumption) bb_tuple ?_
      | refine ve_ty "bool" rfl (by assumption) bb_bool ?_
      | refine ve_ty "list" rfl (by assumption) bb_list ?_
      | refine ve_ty "str" rfl (by assumption) bb_str ?_
      | refine ve_gint rfl (by assumption) (by decide) ?_
      | refine ve_gref rfl (by assumption) (by decide) ?_
    | (with_reducible refine g_con ?_); with_reducible first
      | refine ve_int ?_
      | refine ve_bl ?_
      | refine ve_non ?_
      | refine ve_str ?_
    | (with_reducible refine g_bin ?_); with_reducible first
      | refine ve_plus ?_
      | refine ve_minus ?_
      | refine ve_times ?_
      | refine ve_fdiv ?_
      | refine ve_mod ?_
      | refine ve_pow ?_
    | (with_reducible refine g_cmp ?_); first
      | (with_reducible refine ve_eq (by assumption) ?_)
      | (with_reducible refine ve_ne (by assumption) ?_)
      | (with_reducible refine ve_lt ?_)
      | (with_reducible refine ve_le ?_)
      | (with_reducible refine ve_gt ?_)
      | (with_reducible refine ve_ge ?_)
    | (with_reducible refine ve_ch_ll ?_)
    | (with_reducible refine ve_ch_lt ?_)
    | (with_reducible refine g_call "len" ?_); refine ve_lenA rfl (by assumption) ?_
    | (with_reducible refine g_call "abs" ?_); refine ve_abs rfl (by assumption) ?_
    | (with_reducible refine g_call "int" ?_); refine ve_int1 rfl (by assumption) ?_
    | (with_reducible refine g_call "sum" ?_); refine ve_sum rfl (by assumption) ?_
    | (with_reducible refine g_ofrg "tuple" ?_); refine ve_tupRg rfl (by assumption) rfl (by assumption) ?_
    | (with_reducible refine g_ofrg "list" ?_); refine ve_listRg rfl (by assumption) rfl (by assumption) ?_
    | (with_reducible refine g_call "tuple" ?_); refine ve_tupleOf rfl (by assumption) ?_
    | (with_reducible refine g_call "list" ?_); refine ve_listOf rfl (by assumption) ?_
    | (with_reducible refine g_call "repr" ?_); refine ve_repr (by assumption) (by assumption) rfl (by assumption) ?_
    | (with_reducible refine g_call "all" ?_); refine ve_all rfl (by assumption) ?_
    | (with_reducible refine g_call "any" ?_); refine ve_any rfl (by assumption) ?_
    | (with_reducible refine g_two "min" ?_); refine ve_min2 rfl (by assumption) ?_
    | (with_reducible refine g_two "max" ?_); refine ve_max2 rfl (by assumption) ?_
    | (with_reducible refine g_one "max" ?_); refine ve_maxL (by assumption) rfl (by assumption) ?_
    | (with_reducible refine g_one "min" ?_); refine ve_minL (by assumption) rfl (by assumption) ?_
    | (with_reducible refine g_isi "int" ?_); refine ve_isi "int" rfl (by assumption) ?_
    | (with_reducible refine g_isi "bool" ?_); refine ve_isi "bool" rfl (by assumption) ?_
    | (with_reducible refine g_isi "tuple" ?_); refine ve_isi "tuple" rfl (by assumption) ?_
    | (with_reducible refine g_isi "list" ?_); refine ve_isi "list" rfl (by assumption) ?_
    | (with_reducible refine g_isi "str" ?_); refine ve_isi "str" rfl (by assumption) ?_
    | (with_reducible refine g_meth "append" ?_); refine ve_append ?_
    | (with_reducible refine g_meth "extend" ?_); refine ve_extend ?_
    | (with_reducible refine g_meth "pop" ?_); refine ve_popAt ?_
    | (with_reducible refine g_meth "count" ?_); refine ve_count (by assumption) ?_
    | (with_reducible refine g_meth "index" ?_); refine ve_index (by assumption) ?_
    | (with_reducible refine g_calln ?_); refine ve_c (by assumption) (by assumption) (by assumption) rfl rfl ?_
    | (with_reducible refine g_calln ?_); refine ve_mk (by assumption) (by assumption) (by assumption) rfl ?_
    | (with_reducible refine g_attr ?_); refine ve_fld ?_
    | (with_reducible refine ve_rev ?_)
    | refine ve_at (by assumption) ?_
    | (with_reducible refine ve_if ?_)
    | (with_reducible refine ve_tup ?_)
    | (with_reducible refine ve_lst ?_)
    | (with_reducible refine ve_dnewK ?_)
    | (with_reducible refine ve_not' ?_)
    | (with_reducible refine ve_neg' ?_)
    | (with_reducible refine ve_and' ?_)
    | (with_reducible refine ve_or' ?_)
    | (with_reducible refine ve_one ?_)
  | (with_reducible refine g_vt ?_); first
    | (with_reducible refine g_tcmp ?_); first
      | (with_reducible refine vt_eq (by assumption) ?_)
      | (with_reducible refine vt_ne (by assumption) ?_)
      | (with_reducible refine vt_lt ?_)
      | (with_reducible refine vt_le ?_)
      | (with_reducible refine vt_gt ?_)
      | (with_reducible refine vt_ge ?_)
    | (with_reducible refine vt_ch_ll ?_)
    | (with_reducible refine vt_ch_lt ?_)
    | (with_reducible refine vt_not ?_)
    | (with_reducible refine VW.vt (vw_and ?_))
    | (with_reducible refine VW.vt (vw_or ?_))
    | refine vt_bl ?_
  | (with_reducible refine g_vw ?_); with_reducible first
    | refine vw_and ?_
    | refine vw_or ?_
    | refine vw_and1 ?_
    | refine vw_or1 ?_
  | (with_reducible refine g_va ?_); first
    | (with_reducible refine va_nil ?_)
    | refine va_cons ?_
  | (with_reducible refine g_vb ?_); with_reducible first
    | refine vb_nil ?_
    | refine vb_cons ?_
  | (with_reducible refine g_vs ?_); first
    | (with_reducible refine g_set ?_); first
      | refine vs_set (i := 0) (by assumption) rfl (by first | exact Or.inl rfl | exact Or.inr rfl) rfl ?_
      | refine vs_set (i := 1) (by assumption) rfl (by first | exact Or.inl rfl | exact Or.inr rfl) rfl ?_
      | refine vs_set (i := 2) (by assumption) rfl (by first | exact Or.inl rfl | exact Or.inr rfl) rfl ?_
      | refine vs_set (i := 3) (by assumption) rfl (by first | exact Or.inl rfl | exact Or.inr rfl) rfl ?_
      | refine vs_set (i := 4) (by assumption) rfl (by first | exact Or.inl rfl | exact Or.inr rfl) rfl ?_
      | refine vs_set (i := 5) (by assumption) rfl (by first | exact Or.inl rfl | exact Or.inr rfl) rfl ?_
      | refine vs_set (i := 6) (by assumption) rfl (by first | exact Or.inl rfl | exact Or.inr rfl) rfl ?_
      | refine vs_set (i := 7) (by assumption) rfl (by first | exact Or.inl rfl | exact Or.inr rfl) rfl ?_
      | refine vs_set (i := 8) (by assumption) rfl (by first | exact Or.inl rfl | exact Or.inr rfl) rfl ?_
      | refine vs_set (i := 9) (by assumption) rfl (by first | exact Or.inl rfl | exact Or.inr rfl) rfl ?_
      | refine vs_set (i := 10) (by assumption) rfl (by first | exact Or.inl rfl | exact Or.inr rfl) rfl ?_
      | refine vs_set (i := 11) (by assumption) rfl (by first | exact Or.inl rfl | exact Or.inr rfl) rfl ?_
      | refine vs_set (i := 12) (by assumption) rfl (by first | exact Or.inl rfl | exact Or.inr rfl) rfl ?_
      | refine vs_set (i := 13) (by assumption) rfl (by first | exact Or.inl rfl | exact Or.inr rfl) rfl ?_
      | refine vs_set (i := 14) (by assumption) rfl (by first | exact Or.inl rfl | exact Or.inr rfl) rfl ?_
      | refine vs_set (i := 15) (by assumption) rfl (by first | exact Or.inl rfl | exact Or.inr rfl) rfl ?_
    | (with_reducible refine g_aug ?_); first
      | refine vs_add 0 (by assumption) rfl (by first | exact Or.inl rfl | exact Or.inr rfl) rfl rfl ?_
      | refine vs_add 1 (by assumption) rfl (by first | exact Or.inl rfl | exact Or.inr rfl) rfl rfl ?_
      | refine vs_add 2 (by assumption) rfl (by first | exact Or.inl rfl | exact Or.inr rfl) rfl rfl ?_
      | refine vs_add 3 (by assumption) rfl (by first | exact Or.inl rfl | exact Or.inr rfl) rfl rfl ?_
      | refine vs_add 4 (by assumption) rfl (by first | exact Or.inl rfl | exact Or.inr rfl) rfl rfl ?_
      | refine vs_add 5 (by assumption) rfl (by first | exact Or.inl rfl | exact Or.inr rfl) rfl rfl ?_
      | refine vs_add 6 (by assumption) rfl (by first | exact Or.inl rfl | exact Or.inr rfl) rfl rfl ?_
      | refine vs_add 7 (by assumption) rfl (by first | exact Or.inl rfl | exact Or.inr rfl) rfl rfl ?_
      | refine vs_add 8 (by assumption) rfl (by first | exact Or.inl rfl | exact Or.inr rfl) rfl rfl ?_
      | refine vs_add 9 (by assumption) rfl (by first | exact Or.inl rfl | exact Or.inr rfl) rfl rfl ?_
      | refine vs_add 10 (by assumption) rfl (by first | exact Or.inl rfl | exact Or.inr rfl) rfl rfl ?_
      | refine vs_add 11 (by assumption) rfl (by first | exact Or.inl rfl | exact Or.inr rfl) rfl rfl ?_
      | refine vs_add 12 (by assumption) rfl (by first | exact Or.inl rfl | exact Or.inr rfl) rfl rfl ?_
      | refine vs_add 13 (by assumption) rfl (by first | exact Or.inl rfl | exact Or.inr rfl) rfl rfl ?_
      | refine vs_add 14 (by assumption) rfl (by first | exact Or.inl rfl | exact Or.inr rfl) rfl rfl ?_
      | refine vs_add 15 (by assumption) rfl (by first | exact Or.inl rfl | exact Or.inr rfl) rfl rfl ?_
    | (with_reducible refine g_fset ?_); refine vs_fld (i := 0) rfl (.inl rfl) (by decide) (by decide) ?_
    | (with_reducible refine g_put ?_); refine vs_put ?_
    | (with_reducible refine vs_ife ?_)
    | refine vs_ret ?_
    | refine vs_expr ?_
    | (with_reducible refine vs_pass ?_)
  | (with_reducible refine g_vps ?_); first
    | (with_reducible refine vps_nil ?_)
    | refine vps_cons ?_
  | (with_reducible refine g_nx ?_); first
    | refine vb_nil ?_
    | refine vb_cons ?_
  | (with_reducible refine g_rt ?_); first
    | refine rt_d ?_
    | refine rt_n ?_
    | refine rt_s rfl rfl ?_
  | (with_reducible refine g_stored ?_); first
    | refine st_d ?_
    | refine st_n ?_
  | (with_reducible refine g_sa ?_); first
    | refine sa_nil ?_
    | refine sa_d ?_
    | refine sa_n ?_
  | (with_reducible refine g_nos ?_); first
    | exact noS_d
    | exact noS_n
  | (with_reducible refine g_len ?_); rfl
  | (with_reducible refine g_pmake ?_); first
    | refine pmake_mk (so0 rfl) ?_
    | refine pmake_mk (so1 rfl rfl) ?_
  | (with_reducible refine g_pcall ?_); first
    | refine pcall_mk (so0 rfl) ?_
    | refine pcall_mk (so1 rfl rfl) ?_
    | refine pcall_mk (so2 rfl (by decide) rfl rfl) ?_
  | (with_reducible refine g_prg ?_); refine prg_mk (by omega) (by omega) ?_
  | (with_reducible refine g_pfld ?_); refine pfld_mk (by assumption) (by assumption) rfl ?_
  | (with_reducible refine g_pfst ?_); refine pfst_mk rfl (by assumption) (by assumption) (Nat.le_of_ble_eq_true rfl) ?_
  | (with_reducible refine g_plenA ?_); first
    | refine PLen.seq rfl ?_
    | refine PLen.dct rfl ?_
  | (with_reducible refine g_pbs ?_); refine pbs_mk rfl ?_
  | (with_reducible refine g_ptup ?_); first
    | refine ptupL rfl ?_
    | refine ptupT rfl ?_
  | (with_reducible refine g_plst ?_); refine plst_mk rfl ?_
  | (with_reducible refine g_psum ?_); refine psum_mk rfl ?_
  | (with_reducible refine g_prev ?_); first
    | refine prev_lst rfl ?_
    | refine prev_tup rfl ?_
    | refine PRevA.lst rfl ?_
    | refine PRevA.tup rfl ?_
  | (with_reducible refine g_pbo ?_); refine PBo.mk ?_ ?_
  | (with_reducible refine g_pneg ?_); refine PNeg.mk ?_
  | (with_reducible refine g_rch ?_); refine RCh.mk ?_ ?_
  | (with_reducible refine g_pi2 ?_); refine pi2_mk ?_
  | (with_reducible refine g_pi1 ?_); refine pi1_mk ?_
  | (with_reducible refine g_pisi ?_); refine pisi_mk rfl rfl (by first | exact kit_t (by decide) | exact kit_f (by decide)) ?_
  | (with_reducible refine g_tl ?_); refine tl_mk rfl
  | (with_reducible refine g_tls ?_); exact ⟨_, rfl⟩
  | (with_reducible refine g_rcnt ?_); refine rcntB rfl ?_
  | (with_reducible refine g_rds ?_); first
    | refine rds1 ?_
    | refine rds2 ?_
    | refine rds3 ?_
    | refine rds4 ?_
    | refine rds5 ?_
    | refine rds0 ?_
    | refine rds6 ?_
  | (with_reducible refine g_vbx ?_); with_reducible first
    | refine vbx_nil ?_
    | refine vbx_cons ?_
  | (with_reducible refine g_vsx ?_); first
    | (with_reducible refine g_raise ?_); refine vsx_raise rfl (by assumption) (by assumption) rfl ?_
    | (with_reducible refine g_ifx ?_); (with_reducible refine vsx_if (by assumption) ?_)
    | (with_reducible refine g_exprx ?_); refine vsx_expr ?_
    | (with_reducible refine vsx_of (by assumption) ?_)
  | (with_reducible refine g_vex ?_); first
    | refine vex_c (by assumption) (by assumption) (by assumption) (by assumption) rfl rfl ?_
    | (with_reducible refine vex_of (by assumption) ?_)
  | (with_reducible refine g_pcx ?_); first
    | refine pcx1 ?_
    | refine pcx2 ?_
    | refine pcx3 ?_
  | (with_reducible exact ft_)
  | (with_reducible exact tf_)
  | (with_reducible refine tt_ ?_)
  | (with_reducible refine ff_ ?_)
  | (with_reducible refine And.intro ?_ ?_)
  | (with_reducible refine g_qb ?_)
  | (with_reducible intro hh); (try simp only [id, Bool.not_true, Bool.not_false, decide_eq_true_eq, decide_eq_false_iff_not, Bool.not_eq_true', Bool.not_eq_false', reduceCtorEq, not_true_eq_false] at hh)
  | (with_reducible refine g_rplus ?_); refine RPlus.int ?_
  | (with_reducible refine g_rsub ?_); refine RSub.int ?_
  | (with_reducible refine g_rtimes ?_); refine RTimes.int (by first | exact .inl ⟨by omega, by omega⟩ | exact .inr ⟨by omega, by omega⟩) ?_
  | (with_reducible refine g_rdiv ?_); refine RDivI.int (by omega) (by omega) ?_
  | (with_reducible refine g_rmod ?_); refine RModI.int (by first | omega | decide) ?_
  | (with_reducible refine g_rpow ?_); refine RPowI.int (by decide) (by decide) ?_
  | (with_reducible refine g_rc2 ?_); refine RC2.int ?_
  | (with_reducible refine g_rq ?_); first
    | refine RQ.int ?_
    | refine RQ.str ?_
    | refine rq_tup rfl rfl ?_
    | refine rq_lst rfl rfl ?_
  | (with_reducible refine g_rat ?_); first
    | refine RAt.seq rfl (by first | assumption | exact at0 | exact at1 | exact at2 | exact at3 | exact at4) ?_
    | refine RAt.dct rfl rfl (by assumption) ?_
  | (with_reducible refine g_rput ?_); refine put5 rfl rfl (by omega) (by omega) ?_)
section
variable {P : Program} {w : World} {K : PySem.W.Frag} {mg : Str → Option Value} {base : Heap}
theorem ok__law_bounds {f : Addr} {fd : FuncData} (gb : BI mg) (F : L2.Fun K "_law_bounds" "_law_bounds" (topS 31) f fd) (hm : mg "_law_bounds" = some (.ref f)) (b : Binds K fd ["goal", "row"] [])  : CalV P w K mg base 2 "_law_bounds" 2 spLB := by
  have ⟨m_len, m_int, m_abs, m_sum, m_tuple, m_list, m_repr, m_range, m_isi, m_all, m_max, m_min, m_enum, m_bool, m_any, m_sorted, m_zip, m_set, m_str⟩ := gb
  refine calv0 F hm b rfl sc__law_bounds ?_
  rintro cdv A outer s H E its α R hr hgd0 ⟨gs, row, n, rfl, okg, okr, hn60, q⟩
  have hu : (bcx P w K mg base ["goal", "row", "place", "least", "most", "turn", "here", "total"] "_law_bounds" (topS 31) f cdv A outer s H E).A.units + 64 < cLine := hr.units
  have hu1 : (bcx P w K mg base ["goal", "row", "place", "least", "most", "turn", "here", "total"] "_law_bounds" (topS 31) f cdv A outer s H E).A.units + 1 < cLine := hu_of hr
  have hu65 : (bcx P w K mg base ["goal", "row", "place", "least", "most", "turn", "here", "total"] "_law_bounds" (topS 31) f cdv A outer s H E).A.units + 65 < cLine := room65 hr
  have hgd : (bcx P w K mg base ["goal", "row", "place", "least", "most", "turn", "here", "total"] "_law_bounds" (topS 31) f cdv A outer s H E).A.guards = some [] := hgd0
  have hN : (bcx P w K mg base ["goal", "row", "place", "least", "most", "turn", "here", "total"] "_law_bounds" (topS 31) f cdv A outer s H E).N.Nodup := sc__law_bounds.nd
  have hnx : NoX (bcx P w K mg base ["goal", "row", "place", "least", "most", "turn", "here", "total"] "_law_bounds" (topS 31) f cdv A outer s H E) := ⟨rfl, fun _ _ z => z⟩
  have hgl := okg.len
  have hrl := okr.len
  refine vb_cons (vs_pair (i := 3) (j := 4) rfl hN rfl rfl (.inl rfl) (.inl rfl) rfl rfl ?_)
  repeat' ac_rfl
  refine ⟨_, _, rfl, ?_⟩
  repeat' ac_rfl
  refine vs_for (tf_name (i := 2) hN rfl (.inl rfl)) (fun i hi => by simp at hi; subst hi; rfl) (vi_rg1 rfl m_range ?_) rfl
  repeat' ac_rfl
  refine ⟨_, rfl, by omega, by rw [List.length_map]; omega, fun i Γ => ∃ x2 x5 x6 x7, Γ = [some (.d (.lst (gs.map D.int))), some (.d (tI row)), x2, some (.d (.int (outB gs row gs.length i).le)), some (.d (.int (outB gs row gs.length i).mo)), x5, x6, x7], ⟨none, none, none, none, rfl⟩, ?_, ?_⟩
  · rintro i x Γ' hx ⟨x2, x5, x6, x7, rfl⟩
    obtain ⟨rfl, hi⟩ := rg_get hx
    rw [List.length_map] at hi
    refine ⟨_, rfl, vb_cons (vs_par2 (i := 6) (j := 7) rfl hN rfl rfl (by decide) rfl rfl rfl rfl ?_)⟩
    repeat' ac_rfl
    refine vs_for (tf_name (i := 5) hN rfl (.inl rfl)) (fun i hi => by simp at hi; subst hi; rfl) (vi_rg1 rfl m_range ?_) rfl
    repeat' ac_rfl
    refine ⟨_, rfl, by omega, by rw [List.length_map]; omega, fun t Γ => ∃ x5, Γ = [some (.d (.lst (gs.map D.int))), some (.d (tI row)), some (.d (.int (i : Nat))), some (.d (.int (inB gs row t ⟨(outB gs row gs.length i).le, (outB gs row gs.length i).mo, 0, (i : Nat)⟩).le)), some (.d (.int (inB gs row t ⟨(outB gs row gs.length i).le, (outB gs row gs.length i).mo, 0, (i : Nat)⟩).mo)), x5, some (.d (.int (inB gs row t ⟨(outB gs row gs.length i).le, (outB gs row gs.length i).mo, 0, (i : Nat)⟩).he)), some (.d (.int (inB gs row t ⟨(outB gs row gs.length i).le, (outB gs row gs.length i).mo, 0, (i : Nat)⟩).to))], ⟨_, rfl⟩, ?_, ?_⟩
    · rintro t y Γ' hy ⟨x5, rfl⟩
      have hh := inB_he (row := row) okg (s := ⟨(outB gs row gs.length i).le, (outB gs row gs.length i).mo, 0, (i : Nat)⟩) ⟨by show (0 : Int) ≤ (i : Nat); omega, by show ((i : Nat) : Int) < n; omega⟩ t
      have eS : inB gs row (t + 1) ⟨(outB gs row gs.length i).le, (outB gs row gs.length i).mo, 0, (i : Nat)⟩ = stB gs row (inB gs row t ⟨(outB gs row gs.length i).le, (outB gs row gs.length i).mo, 0, (i : Nat)⟩) := rfl
      obtain ⟨S, hS⟩ : ∃ S, inB gs row t ⟨(outB gs row gs.length i).le, (outB gs row gs.length i).mo, 0, (i : Nat)⟩ = S := ⟨_, rfl⟩
      rw [hS] at hh eS ⊢
      have a1 := at_F (gs := row) hh.1 (by omega)
      have a2 := at_F (gs := gs) hh.1 (by omega)
      refine ⟨_, rfl, vb_cons (vs_par2 (i := 6) (j := 7) rfl hN rfl rfl (by decide) rfl rfl rfl rfl ?_)⟩
      repeat' ac_rfl
      refine vs_par2 (i := 3) (j := 4) rfl hN rfl rfl (by decide) rfl rfl rfl rfl ?_
      repeat' ac_rfl
      exact ⟨_, by rw [eS]; rfl⟩
    · rintro Γ' ⟨x5, rfl⟩
      have eN : (rgD ((gs.map D.int).length : Nat)).length = gs.length := by rw [rgD_I, List.length_map, rgI_length, List.length_map]; omega
      rw [eN]
      repeat' ac_rfl
      exact ⟨_, _, _, _, rfl⟩
  · rintro Γ' ⟨x2, x5, x6, x7, rfl⟩
    have eN : (rgD ((gs.map D.int).length : Nat)).length = gs.length := by rw [rgD_I, List.length_map, rgI_length, List.length_map]; omega
    rw [eN]
    repeat' ac_rfl
    exact q
end
end K80
set_option Elab.async false
set_option linter.all false
set_option maxRecDepth 100000
set_option maxHeartbeats 4000000
namespace K80
open PySem PySem.Spec PyProof.Rows L2 AV LB
local macro_rules | `(tactic| ac_rfl) => `(tactic| first
  | (with_reducible refine g_ve ?_); first
    | (with_reducible refine g_name ?_); first
      | refine vv 0 rfl ?_
      | refine vv 1 rfl ?_
      | refine vv 2 rfl ?_
      | refine vv 3 rfl ?_
      | refine vv 4 rfl ?_
      | refine vv 5 rfl ?_
      | refine vv 6 rfl ?_
      | refine vv 7 rfl ?_
      | refine vv 8 rfl ?_
      | refine vv 9 rfl ?_
      | refine vv 10 rfl ?_
      | refine vv 11 rfl ?_
      | refine vv 12 rfl ?_
      | refine vv 13 rfl ?_
      | refine vv 14 rfl ?_
      | refine vv 15 rfl ?_
      | refine ve_ty "int" rfl (by assumption) bb_int ?_
      | refine ve_ty "tuple" rfl (by assumption) bb_tuple ?_
      | refine ve_ty "bool" rfl (by assumption) bb_bool ?_
      | refine ve_ty "list" rfl (by assumption) bb_list ?_
      | refine ve_ty "str" rfl (by assumption) bb_str ?_
      | refine ve_gint rfl (by assumption) (by decide) ?_
      | refine ve_gref rfl (by assumption) (by decide) ?_
    | (with_reducible refine g_con ?_); with_reducible first
      | refine ve_int ?_
      | refine ve_bl ?_
      | refine ve_non ?_
      | refine ve_str ?_
    | (with_reducible refine g_bin ?_); with_reducible first
      | refine ve_plus ?_
      | refine ve_minus ?_
      | refine ve_times ?_
      | refine ve_fdiv ?_
      | refine ve_mod ?_
      | refine ve_pow ?_
    | (with_reducible refine g_cmp ?_); first
      | (with_reducible refine ve_eq (by assumption) ?_)
      | (with_reducible refine ve_ne (by assumption) ?_)
      | (with_reducible refine ve_lt ?_)
      | (with_reducible refine ve_le ?_)
      | (with_reducible refine ve_gt ?_)
      | (with_reducible refine ve_ge ?_)
    | (with_reducible refine ve_ch_ll ?_)
    | (with_reducible refine ve_ch_lt ?_)
    | (with_reducible refine g_call "len" ?_); refine ve_lenA rfl (by assumption) ?_
    | (with_reducible refine g_call "abs" ?_); refine ve_abs rfl (by assumption) ?_
    | (with_reducible refine g_call "int" ?_); refine ve_int1 rfl (by assumption) ?_
    | (with_reducible refine g_call "sum" ?_); refine ve_sum rfl (by assumption) ?_
    | (with_reducible refine g_ofrg "tuple" ?_); refine ve_tupRg rfl (by assumption) rfl (by assumption) ?_
    | (with_reducible refine g_ofrg "list" ?_); refine ve_listRg rfl (by assumption) rfl (by assumption) ?_
    | (with_reducible refine g_call "tuple" ?_); refine ve_tupleOf rfl (by assumption) ?_
    | (with_reducible refine g_call "list" ?_); refine ve_listOf rfl (by assumption) ?_
    | (with_reducible refine g_call "repr" ?_); refine ve_repr (by assumption) (by assumption) rfl (by assumption) ?_
    | (with_reducible refine g_call "all" ?_); refine ve_all rfl (by assumption) ?_
    | (with_reducible refine g_call "any" ?_); refine ve_any rfl (by assumption) ?_
    | (with_reducible refine g_two "min" ?_); refine ve_min2 rfl (by assumption) ?_
    | (with_reducible refine g_two "max" ?_); refine ve_max2 rfl (by assumption) ?_
    | (with_reducible refine g_one "max" ?_); refine ve_maxL (by assumption) rfl (by assumption) ?_
    | (with_reducible refine g_one "min" ?_); refine ve_minL (by assumption) rfl (by assumption) ?_
    | (with_reducible refine g_isi "int" ?_); refine ve_isi "int" rfl (by assumption) ?_
    | (with_reducible refine g_isi "bool" ?_); refine ve_isi "bool" rfl (by assumption) ?_
    | (with_reducible refine g_isi "tuple" ?_); refine ve_isi "tuple" rfl (by assumption) ?_
    | (with_reducible refine g_isi "list" ?_); refine ve_isi "list" rfl (by assumption) ?_
    | (with_reducible refine g_isi "str" ?_); refine ve_isi "str" rfl (by assumption) ?_
    | (with_reducible refine g_meth "append" ?_); refine ve_append ?_
    | (with_reducible refine g_meth "extend" ?_); refine ve_extend ?_
    | (with_reducible refine g_meth "pop" ?_); refine ve_popAt ?_
    | (with_reducible refine g_meth "count" ?_); refine ve_count (by assumption) ?_
    | (with_reducible refine g_meth "index" ?_); refine ve_index (by assumption) ?_
    | (with_reducible refine g_calln ?_); refine ve_c (by assumption) (by assumption) (by assumption) rfl rfl ?_
    | (with_reducible refine g_calln ?_); refine ve_mk (by assumption) (by assumption) (by assumption) rfl ?_
    | (with_reducible refine g_attr ?_); refine ve_fld ?_
    | (with_reducible refine ve_rev ?_)
    | refine ve_at (by assumption) ?_
    | (with_reducible refine ve_if ?_)
    | (with_reducible refine ve_tup ?_)
    | (with_reducible refine ve_lst ?_)
    | (with_reducible refine ve_dnewK ?_)
    | (with_reducible refine ve_not' ?_)
    | (with_reducible refine ve_neg' ?_)
    | (with_reducible refine ve_and' ?_)
    | (with_reducible refine ve_or' ?_)
    | (with_reducible refine ve_one ?_)
  | (with_reducible refine g_vt ?_); first
    | (with_reducible refine g_tcmp ?_); first
      | (with_reducible refine vt_eq (by assumption) ?_)
      | (with_reducible refine vt_ne (by assumption) ?_)
      | (with_reducible refine vt_lt ?_)
      | (with_reducible refine vt_le ?_)
      | (with_reducible refine vt_gt ?_)
      | (with_reducible refine vt_ge ?_)
    | (with_reducible refine vt_ch_ll ?_)
    | (with_reducible refine vt_ch_lt ?_)
    | (with_reducible refine vt_not ?_)
    | (with_reducible refine VW.vt (vw_and ?_))
    | (with_reducible refine VW.vt (vw_or ?_))
    | refine vt_bl ?_
  | (with_reducible refine g_vw ?_); with_reducible first
    | refine vw_and ?_
    | refine vw_or ?_
    | refine vw_and1 ?_
    | refine vw_or1 ?_
  | (with_reducible refine g_va ?_); first
    | (with_reducible refine va_nil ?_)
    | refine va_cons ?_
  | (with_reducible refine g_vb ?_); with_reducible first
    | refine vb_nil ?_
    | refine vb_cons ?_
  | (with_reducible refine g_vs ?_); first
    | (with_reducible refine g_set ?_); first
      | refine vs_set (i := 0) (by assumption) rfl (by first | exact Or.inl rfl | exact Or.inr rfl) rfl ?_
      | refine vs_set (i := 1) (by assumption) rfl (by first | exact Or.inl rfl | exact Or.inr rfl) rfl ?_
      | refine vs_set (i := 2) (by assumption) rfl (by first | exact Or.inl rfl | exact Or.inr rfl) rfl ?_
      | refine vs_set (i := 3) (by assumption) rfl (by first | exact Or.inl rfl | exact Or.inr rfl) rfl ?_
      | refine vs_set (i := 4) (by assumption) rfl (by first | exact Or.inl rfl | exact Or.inr rfl) rfl ?_
      | refine vs_set (i := 5) (by assumption) rfl (by first | exact Or.inl rfl | exact Or.inr rfl) rfl ?_
      | refine vs_set (i := 6) (by assumption) rfl (by first | exact Or.inl rfl | exact Or.inr rfl) rfl ?_
      | refine vs_set (i := 7) (by assumption) rfl (by first | exact Or.inl rfl | exact Or.inr rfl) rfl ?_
      | refine vs_set (i := 8) (by assumption) rfl (by first | exact Or.inl rfl | exact Or.inr rfl) rfl ?_
      | refine vs_set (i := 9) (by assumption) rfl (by first | exact Or.inl rfl | exact Or.inr rfl) rfl ?_
      | refine vs_set (i := 10) (by assumption) rfl (by first | exact Or.inl rfl | exact Or.inr rfl) rfl ?_
      | refine vs_set (i := 11) (by assumption) rfl (by first | exact Or.inl rfl | exact Or.inr rfl) rfl ?_
      | refine vs_set (i := 12) (by assumption) rfl (by first | exact Or.inl rfl | exact Or.inr rfl) rfl ?_
      | refine vs_set (i := 13) (by assumption) rfl (by first | exact Or.inl rfl | exact Or.inr rfl) rfl ?_
      | refine vs_set (i := 14) (by assumption) rfl (by first | exact Or.inl rfl | exact Or.inr rfl) rfl ?_
      | refine vs_set (i := 15) (by assumption) rfl (by first | exact Or.inl rfl | exact Or.inr rfl) rfl ?_
    | (with_reducible refine g_aug ?_); first
      | refine vs_add 0 (by assumption) rfl (by first | exact Or.inl rfl | exact Or.inr rfl) rfl rfl ?_
      | refine vs_add 1 (by assumption) rfl (by first | exact Or.inl rfl | exact Or.inr rfl) rfl rfl ?_
      | refine vs_add 2 (by assumption) rfl (by first | exact Or.inl rfl | exact Or.inr rfl) rfl rfl ?_
      | refine vs_add 3 (by assumption) rfl (by first | exact Or.inl rfl | exact Or.inr rfl) rfl rfl ?_
      | refine vs_add 4 (by assumption) rfl (by first | exact Or.inl rfl | exact Or.inr rfl) rfl rfl ?_
      | refine vs_add 5 (by assumption) rfl (by first | exact Or.inl rfl | exact Or.inr rfl) rfl rfl ?_
      | refine vs_add 6 (by assumption) rfl (by first | exact Or.inl rfl | exact Or.inr rfl) rfl rfl ?_
      | refine vs_add 7 (by assumption) rfl (by first | exact Or.inl rfl | exact Or.inr rfl) rfl rfl ?_
      | refine vs_add 8 (by assumption) rfl (by first | exact Or.inl rfl | exact Or.inr rfl) rfl rfl ?_
      | refine vs_add 9 (by assumption) rfl (by first | exact Or.inl rfl | exact Or.inr rfl) rfl rfl ?_
      | refine vs_add 10 (by assumption) rfl (by first | exact Or.inl rfl | exact Or.inr rfl) rfl rfl ?_
      | refine vs_add 11 (by assumption) rfl (by first | exact Or.inl rfl | exact Or.inr rfl) rfl rfl ?_
      | refine vs_add 12 (by assumption) rfl (by first | exact Or.inl rfl | exact Or.inr rfl) rfl rfl ?_
      | refine vs_add 13 (by assumption) rfl (by first | exact Or.inl rfl | exact Or.inr rfl) rfl rfl ?_
      | refine vs_add 14 (by assumption) rfl (by first | exact Or.inl rfl | exact Or.inr rfl) rfl rfl ?_
      | refine vs_add 15 (by assumption) rfl (by first | exact Or.inl rfl | exact Or.inr rfl) rfl rfl ?_
    | (with_reducible refine g_fset ?_); refine vs_fld (i := 0) rfl (.inl rfl) (by decide) (by decide) ?_
    | (with_reducible refine g_put ?_); refine vs_put ?_
    | (with_reducible refine vs_ife ?_)
    | refine vs_ret ?_
    | refine vs_expr ?_
    | (with_reducible refine vs_pass ?_)
  | (with_reducible refine g_vps ?_); first
    | (with_reducible refine vps_nil ?_)
    | refine vps_cons ?_
  | (with_reducible refine g_nx ?_); first
    | refine vb_nil ?_
    | refine vb_cons ?_
  | (with_reducible refine g_rt ?_); first
    | refine rt_d ?_
    | refine rt_n ?_
    | refine rt_s rfl rfl ?_
  | (with_reducible refine g_stored ?_); first
    | refine st_d ?_
    | refine st_n ?_
  | (with_reducible refine g_sa ?_); first
    | refine sa_nil ?_
    | refine sa_d ?_
    | refine sa_n ?_
  | (with_reducible refine g_nos ?_); first
    | exact noS_d
    | exact noS_n
  | (with_reducible refine g_len ?_); rfl
  | (with_reducible refine g_pmake ?_); first
    | refine pmake_mk (so0 rfl) ?_
    | refine pmake_mk (so1 rfl rfl) ?_
  | (with_reducible refine g_pcall ?_); first
    | refine pcall_mk (so0 rfl) ?_
    | refine pcall_mk (so1 rfl rfl) ?_
    | refine pcall_mk (so2 rfl (by decide) rfl rfl) ?_
  | (with_reducible refine g_prg ?_); refine prg_mk (by omega) (by omega) ?_
  | (with_reducible refine g_pfld ?_); refine pfld_mk (by assumption) (by assumption) rfl ?_
  | (with_reducible refine g_pfst ?_); refine pfst_mk rfl (by assumption) (by assumption) (Nat.le_of_ble_eq_true rfl) ?_
  | (with_reducible refine g_plenA ?_); first
    | refine PLen.seq rfl ?_
    | refine PLen.dct rfl ?_
  | (with_reducible refine g_pbs ?_); refine pbs_mk rfl ?_
  | (with_reducible refine g_ptup ?_); first
    | refine ptupL rfl ?_
    | refine ptupT rfl ?_
  | (with_reducible refine g_plst ?_); refine plst_mk rfl ?_
  | (with_reducible refine g_psum ?_); refine psum_mk rfl ?_
  | (with_reducible refine g_prev ?_); first
    | refine prev_lst rfl ?_
    | refine prev_tup rfl ?_
    | refine PRevA.lst rfl ?_
    | refine PRevA.tup rfl ?_
  | (with_reducible refine g_pbo ?_); refine PBo.mk ?_ ?_
  | (with_reducible refine g_pneg ?_); refine PNeg.mk ?_
  | (with_reducible refine g_rch ?_); refine RCh.mk ?_ ?_
  | (with_reducible refine g_pi2 ?_); refine pi2_mk ?_
  | (with_reducible refine g_pi1 ?_); refine pi1_mk ?_
  | (with_reducible refine g_pisi ?_); refine pisi_mk rfl rfl (by first | exact kit_t (by decide) | exact kit_f (by decide)) ?_
  | (with_reducible refine g_tl ?_); refine tl_mk rfl
  | (with_reducible refine g_tls ?_); exact ⟨_, rfl⟩
  | (with_reducible refine g_rcnt ?_); refine rcntB rfl ?_
  | (with_reducible refine g_rds ?_); first
    | refine rds1 ?_
    | refine rds2 ?_
    | refine rds3 ?_
    | refine rds4 ?_
    | refine rds5 ?_
    | refine rds0 ?_
    | refine rds6 ?_
  | (with_reducible refine g_vbx ?_); with_reducible first
    | refine vbx_nil ?_
    | refine vbx_cons ?_
  | (with_reducible refine g_vsx ?_); first
    | (with_reducible refine g_raise ?_); refine vsx_raise rfl (by assumption) (by assumption) rfl ?_
    | (with_reducible refine g_ifx ?_); (with_reducible refine vsx_if (by assumption) ?_)
    | (with_reducible refine g_exprx ?_); refine vsx_expr ?_
    | (with_reducible refine vsx_of (by assumption) ?_)
  | (with_reducible refine g_vex ?_); first
    | refine vex_c (by assumption) (by assumption) (by assumption) (by assumption) rfl rfl ?_
    | (with_reducible refine vex_of (by assumption) ?_)
  | (with_reducible refine g_pcx ?_); first
    | refine pcx1 ?_
    | refine pcx2 ?_
    | refine pcx3 ?_
  | (with_reducible exact ft_)
  | (with_reducible exact tf_)
  | (with_reducible refine tt_ ?_)
  | (with_reducible refine ff_ ?_)
  | (with_reducible refine And.intro ?_ ?_)
  | (with_reducible refine g_qb ?_)
  | (with_reducible intro hh); (try simp only [id, Bool.not_true, Bool.not_false, decide_eq_true_eq, decide_eq_false_iff_not, Bool.not_eq_true', Bool.not_eq_false', reduceCtorEq, not_true_eq_false] at hh)
  | (with_reducible refine g_rplus ?_); refine RPlus.int ?_
  | (with_reducible refine g_rsub ?_); refine RSub.int ?_
  | (with_reducible refine g_rtimes ?_); refine RTimes.int (by first | exact .inl ⟨by omega, by omega⟩ | exact .inr ⟨by omega, by omega⟩) ?_
  | (with_reducible refine g_rdiv ?_); refine RDivI.int (by omega) (by omega) ?_
  | (with_reducible refine g_rmod ?_); refine RModI.int (by first | omega | decide) ?_
  | (with_reducible refine g_rpow ?_); refine RPowI.int (by decide) (by decide) ?_
  | (with_reducible refine g_rc2 ?_); refine RC2.int ?_
  | (with_reducible refine g_rq ?_); first
    | refine RQ.int ?_
    | refine RQ.str ?_
    | refine rq_tup rfl rfl ?_
    | refine rq_lst rfl rfl ?_
  | (with_reducible refine g_rat ?_); first
    | refine RAt.seq rfl (by first | assumption | exact at0 | exact at1 | exact at2 | exact at3 | exact at4) ?_
    | refine RAt.dct rfl rfl (by assumption) ?_
  | (with_reducible refine g_rput ?_); refine put5 rfl rfl (by omega) (by omega) ?_)
section
variable {P : Program} {w : World} {K : PySem.W.Frag} {mg : Str → Option Value} {base : Heap}
theorem ok__law_row {f : Addr} {fd : FuncData} (gb : BI mg) (F : L2.Fun K "_law_row" "_law_row" (topS 30) f fd) (hm : mg "_law_row" = some (.ref f)) (b : Binds K fd ["hand", "goal"] []) (c1 : CalV P w K mg base 1 "_law_draw" 2 spDraw) : CalV P w K mg base 2 "_law_row" 2 spRow := by
  have ⟨m_len, m_int, m_abs, m_sum, m_tuple, m_list, m_repr, m_range, m_isi, m_all, m_max, m_min, m_enum, m_bool, m_any, m_sorted, m_zip, m_set, m_str⟩ := gb
  refine calv0 F hm b rfl sc__law_row ?_
  rintro cdv A outer s H E its α R hr hgd0 ⟨cs, p, q, r, u, gs, n, rfl, hp, okg, hn1, hn60, q'⟩
  have hu : (bcx P w K mg base ["hand", "goal", "some", "size", "way", "at", "place"] "_law_row" (topS 30) f cdv A outer s H E).A.units + 64 < cLine := hr.units
  have hu1 : (bcx P w K mg base ["hand", "goal", "some", "size", "way", "at", "place"] "_law_row" (topS 30) f cdv A outer s H E).A.units + 1 < cLine := hu_of hr
  have hu65 : (bcx P w K mg base ["hand", "goal", "some", "size", "way", "at", "place"] "_law_row" (topS 30) f cdv A outer s H E).A.units + 65 < cLine := room65 hr
  have hgd : (bcx P w K mg base ["hand", "goal", "some", "size", "way", "at", "place"] "_law_row" (topS 30) f cdv A outer s H E).A.guards = some [] := hgd0
  have hN : (bcx P w K mg base ["hand", "goal", "some", "size", "way", "at", "place"] "_law_row" (topS 30) f cdv A outer s H E).N.Nodup := sc__law_row.nd
  have hnx : NoX (bcx P w K mg base ["hand", "goal", "some", "size", "way", "at", "place"] "_law_row" (topS 30) f cdv A outer s H E) := ⟨rfl, fun _ _ z => z⟩
  have hgl := okg.len
  have hml : (gs.map D.int).length = gs.length := List.length_map _
  refine vb_cons (vs_par2 (i := 3) (j := 4) rfl hN rfl rfl (by decide) rfl rfl rfl rfl ?_)
  repeat' ac_rfl
  refine ⟨cs, p, q, r, u, 4, rfl, hp, by omega, by omega, fun way cs p q r u w0 w1 hp => ?_⟩
  repeat' ac_rfl
  · refine ve_lc (own := [("place", 6)]) rfl hN (blkOk_by (N := ["hand", "goal", "some", "size", "way", "at", "place"]) (sc := defScope (topS 30)) (by decide +kernel)) (tb_name hN rfl (.inl rfl)) (pin1 rfl) (vi_list ?_)
    repeat' ac_rfl
    refine ⟨_, gs.map D.int, rfl, rfl, fun i ds Γ' => ∃ (ns cs : List Int) (p q r u : Int), ds = ns.map D.int ∧ ns.length = i ∧ (∀ n ∈ ns, -1000000000 < n ∧ n < 1000000000) ∧ 0 ≤ p ∧ Γ' = [some (.o (.l (hD cs p q r u))), some (.d (.lst (gs.map D.int))), none, some (.d (.int ((gs.map D.int).length : Nat))), some (.d (.int way)), none, none],
      by rw [List.length_map, sizeLine_eq]; omega, ⟨[], cs, p, q, r, u, rfl, rfl, by simp, hp, rfl⟩, ?_, ?_⟩
    · rintro i ds x Γ' hx ⟨ns, cs, p, q, r, u, rfl, hns, hpos, hp, rfl⟩
      refine ⟨by rw [List.length_map]; omega, _, rfl, fun s H C cl fp => vts_nil ⟨fun _ s H C cl fp => ?_, fun h => by cases h⟩⟩
      repeat' ac_rfl
      refine ⟨cs, p, q, r, u, _, rfl, hp, by omega, by omega, fun d2 cs p q r u e0 e1 hp => ?_⟩
      repeat' ac_rfl
      refine ⟨_, rfl, ns ++ [d2 - 3], cs, p, q, r, u, by rw [List.map_append]; rfl, by simp; omega, fun n hn => ?_, hp, rfl⟩
      rcases List.mem_append.mp hn with hn | hn
      · exact hpos n hn
      · simp at hn; omega
    rintro ds Γ' ⟨ns, cs, p, q, r, u, rfl, hns, hpos, hp, rfl⟩
    repeat' ac_rfl
    exact q' ns _ _ _ _ _ ⟨by omega, hpos⟩ hp
  · refine ve_lc (own := [("place", 6)]) rfl hN (blkOk_by (N := ["hand", "goal", "some", "size", "way", "at", "place"]) (sc := defScope (topS 30)) (by decide +kernel)) (tb_name hN rfl (.inl rfl)) (pin1 rfl) (vi_list ?_)
    repeat' ac_rfl
    refine ⟨_, gs.map D.int, rfl, rfl, fun i ds Γ' => ∃ (ns cs : List Int) (p q r u : Int), ds = ns.map D.int ∧ ns.length = i ∧ (∀ n ∈ ns, -1000000000 < n ∧ n < 1000000000) ∧ 0 ≤ p ∧ Γ' = [some (.o (.l (hD cs p q r u))), some (.d (.lst (gs.map D.int))), none, some (.d (.int ((gs.map D.int).length : Nat))), some (.d (.int way)), none, none],
      by rw [List.length_map, sizeLine_eq]; omega, ⟨[], cs, p, q, r, u, rfl, rfl, by simp, hp, rfl⟩, ?_, ?_⟩
    · rintro i ds x Γ' hx ⟨ns, cs, p, q, r, u, rfl, hns, hpos, hp, rfl⟩
      refine ⟨by rw [List.length_map]; omega, _, rfl, fun s H C cl fp => vts_nil ⟨fun _ s H C cl fp => ?_, fun h => by cases h⟩⟩
      repeat' ac_rfl
      refine ⟨cs, p, q, r, u, _, rfl, hp, by omega, by omega, fun d2 cs p q r u e0 e1 hp => ?_⟩
      repeat' ac_rfl
      refine ⟨_, rfl, ns ++ [d2 - 499999999], cs, p, q, r, u, by rw [List.map_append]; rfl, by simp; omega, fun n hn => ?_, hp, rfl⟩
      rcases List.mem_append.mp hn with hn | hn
      · exact hpos n hn
      · simp at hn; omega
    rintro ds Γ' ⟨ns, cs, p, q, r, u, rfl, hns, hpos, hp, rfl⟩
    repeat' ac_rfl
    exact q' ns _ _ _ _ _ ⟨by omega, hpos⟩ hp
  · refine ⟨cs, p, q, r, u, _, rfl, hp, by omega, by omega, fun at' cs p q r u a0 a1 hp => ?_⟩
    repeat' ac_rfl
    refine ve_lc (own := [("place", 6)]) rfl hN (blkOk_by (N := ["hand", "goal", "some", "size", "way", "at", "place"]) (sc := defScope (topS 30)) (by decide +kernel)) (tb_name hN rfl (.inl rfl)) (pin1 rfl) (vi_rg1 rfl m_range ?_)
    repeat' ac_rfl
    refine ⟨_, rfl, by omega, by omega, fun i ds Γ' => ∃ (ns cs : List Int) (p q r u : Int), ds = ns.map D.int ∧ ns.length = i ∧ (∀ n ∈ ns, -1000000000 < n ∧ n < 1000000000) ∧ 0 ≤ p ∧ Γ' = [some (.o (.l (hD cs p q r u))), some (.d (.lst (gs.map D.int))), none, some (.d (.int ((gs.map D.int).length : Nat))), some (.d (.int way)), some (.d (.int at')), none],
      by rw [rgD_I, List.length_map, rgI_length, sizeLine_eq]; omega, ⟨[], cs, p, q, r, u, rfl, rfl, by simp, hp, rfl⟩, ?_, ?_⟩
    · rintro i ds x Γ' hx ⟨ns, cs, p, q, r, u, rfl, hns, hpos, hp, rfl⟩
      obtain ⟨rfl, hi⟩ := rg_get hx
      refine ⟨by rw [List.length_map]; omega, _, rfl, fun s H C cl fp => vts_nil ⟨fun _ s H C cl fp => ve_times (ve_intb rfl m_int ?_), fun h => by cases h⟩⟩
      repeat' ac_rfl
      refine ⟨_, rfl, ?_⟩
      dsimp only
      generalize id (decide ((i : Int) = at')) = bb
      obtain ⟨v, hv, h01⟩ : ∃ v : Int, (if bb = true then (1 : Int) else 0) = v ∧ (v = 0 ∨ v = 1) := ⟨_, rfl, by cases bb <;> simp⟩
      rw [hv]
      repeat' ac_rfl
      refine ⟨cs, p, q, r, u, _, rfl, hp, by omega, by omega, fun d2 cs p q r u e0 e1 hp => ?_⟩
      repeat' ac_rfl
      have hm : -10 ≤ v * (d2 - 4) ∧ v * (d2 - 4) ≤ 10 := by rcases h01 with rfl | rfl <;> omega
      refine ⟨_, rfl, ns ++ [v * (d2 - 4)], cs, p, q, r, u, by rw [List.map_append]; rfl, by simp; omega, fun n hn => ?_, hp, rfl⟩
      rcases List.mem_append.mp hn with hn | hn
      · exact hpos n hn
      · simp at hn; omega
    rintro ds Γ' ⟨ns, cs, p, q, r, u, rfl, hns, hpos, hp, rfl⟩
    rw [rgD_I, List.length_map, rgI_length] at hns
    repeat' ac_rfl
    exact q' ns _ _ _ _ _ ⟨by omega, hpos⟩ hp
  · refine ve_lc (own := [("place", 6)]) rfl hN (blkOk_by (N := ["hand", "goal", "some", "size", "way", "at", "place"]) (sc := defScope (topS 30)) (by decide +kernel)) (tb_name hN rfl (.inl rfl)) (pin1 rfl) (vi_list ?_)
    repeat' ac_rfl
    refine ⟨_, gs.map D.int, rfl, rfl, fun i ds Γ' => ∃ (ns cs : List Int) (p q r u : Int), ds = ns.map D.int ∧ ns.length = i ∧ (∀ n ∈ ns, 0 ≤ n ∧ n < 100) ∧ 0 ≤ p ∧ Γ' = [some (.o (.l (hD cs p q r u))), some (.d (.lst (gs.map D.int))), none, some (.d (.int ((gs.map D.int).length : Nat))), some (.d (.int way)), none, none],
      by rw [List.length_map, sizeLine_eq]; omega, ⟨[], cs, p, q, r, u, rfl, rfl, by simp, hp, rfl⟩, ?_, ?_⟩
    · rintro i ds x Γ' hx ⟨ns, cs, p, q, r, u, rfl, hns, hpos, hp, rfl⟩
      refine ⟨by rw [List.length_map]; omega, _, rfl, fun s H C cl fp => vts_nil ⟨fun _ s H C cl fp => ?_, fun h => by cases h⟩⟩
      repeat' ac_rfl
      refine ⟨cs, p, q, r, u, _, rfl, hp, by omega, by omega, fun d2 cs p q r u e0 e1 hp => ?_⟩
      repeat' ac_rfl
      refine ⟨_, rfl, ns ++ [d2], cs, p, q, r, u, by rw [List.map_append]; rfl, by simp; omega, fun n hn => ?_, hp, rfl⟩
      rcases List.mem_append.mp hn with hn | hn
      · exact hpos n hn
      · simp at hn; omega
    rintro ds Γ' ⟨ns, cs, p, q, r, u, rfl, hns, hpos, hp, rfl⟩
    refine st_n (vb_frz 2 rfl rfl (vb_cons ?_))
    repeat' ac_rfl
    refine ve_lc (own := [("place", 6)]) rfl hN (blkOk_by (N := ["hand", "goal", "some", "size", "way", "at", "place"]) (sc := defScope (topS 30)) (by decide +kernel)) (tb_name hN rfl (.inl rfl)) (pin1 rfl) (vi_rg1 rfl m_range ?_)
    repeat' ac_rfl
    refine ⟨_, rfl, by omega, by omega, ?_⟩
    refine lc_mI (rgI 0 ((gs.map D.int).length : Nat)) D.int (fun x => atF ns (atF gs x) - atF ns x) (rgD_I _) (by rw [rgI_length]; omega) rfl (fun n hn => ⟨_, rfl, fun s H C cl fp => ?_⟩) ?_
    · rw [rgI_mem] at hn
      have g1 := at_F (gs := gs) hn.1 (by omega)
      have g2 := okg.lt _ (atF_mem (gs := gs) hn.1 (by omega))
      have g3 := at_F (gs := ns) g2.1 (by omega)
      have g4 := at_F (gs := ns) hn.1 (by omega)
      repeat' ac_rfl
    repeat' ac_rfl
    refine q' _ _ _ _ _ _ ⟨by rw [List.length_map, rgI_length]; omega, fun x hx => ?_⟩ hp
    obtain ⟨y, hy, rfl⟩ := List.mem_map.mp hx
    rw [rgI_mem] at hy
    have g2 := okg.lt _ (atF_mem (gs := gs) hy.1 (by omega))
    have g3 := hpos _ (atF_mem (gs := ns) g2.1 (by omega))
    have g4 := hpos _ (atF_mem (gs := ns) hy.1 (by omega))
    omega
end
end K80
set_option Elab.async false
set_option linter.all false
set_option maxRecDepth 100000
set_option maxHeartbeats 4000000
namespace K80
open PySem PySem.Spec PyProof.Rows L2 AV LB
local macro_rules | `(tactic| ac_rfl) => `(tactic| first
  | (with_reducible refine g_ve ?_); first
    | (with_reducible refine g_name ?_); first
      | refine vv 0 rfl ?_
      | refine vv 1 rfl ?_
      | refine vv 2 rfl ?_
      | refine vv 3 rfl ?_
      | refine vv 4 rfl ?_
      | refine vv 5 rfl ?_
      | refine vv 6 rfl ?_
      | refine vv 7 rfl ?_
      | refine vv 8 rfl ?_
      | refine vv 9 rfl ?_
      | refine vv 10 rfl ?_
      | refine vv 11 rfl ?_
      | refine vv 12 rfl ?_
      | refine vv 13 rfl ?_
      | refine vv 14 rfl ?_
      | refine vv 15 rfl ?_
      | refine ve_ty "int" rfl (by assumption) bb_int ?_
      | refine ve_ty "tuple" rfl (by assumption) bb_tuple ?_
      | refine ve_ty "bool" rfl (by assumption) bb_bool ?_
      | refine ve_ty "list" rfl (by assumption) bb_list ?_
      | refine ve_ty "str" rfl (by assumption) bb_str ?_
      | refine ve_gint rfl (by assumption) (by decide) ?_
      | refine ve_gref rfl (by assumption) (by decide) ?_
    | (with_reducible refine g_con ?_); with_reducible first
      | refine ve_int ?_
      | refine ve_bl ?_
      | refine ve_non ?_
      | refine ve_str ?_
    | (with_reducible refine g_bin ?_); with_reducible first
      | refine ve_plus ?_
      | refine ve_minus ?_
      | refine ve_times ?_
      | refine ve_fdiv ?_
      | refine ve_mod ?_
      | refine ve_pow ?_
    | (with_reducible refine g_cmp ?_); first
      | (with_reducible refine ve_eq (by assumption) ?_)
      | (with_reducible refine ve_ne (by assumption) ?_)
      | (with_reducible refine ve_lt ?_)
      | (with_reducible refine ve_le ?_)
      | (with_reducible refine ve_gt ?_)
      | (with_reducible refine ve_ge ?_)
    | (with_reducible refine ve_ch_ll ?_)
    | (with_reducible refine ve_ch_lt ?_)
    | (with_reducible refine g_call "len" ?_); refine ve_lenA rfl (by assumption) ?_
    | (with_reducible refine g_call "abs" ?_); refine ve_abs rfl (by assumption) ?_
    | (with_reducible refine g_call "int" ?_); refine ve_int1 rfl (by assumption) ?_
    | (with_reducible refine g_call "sum" ?_); refine ve_sum rfl (by assumption) ?_
    | (with_reducible refine g_ofrg "tuple" ?_); refine ve_tupRg rfl (by assumption) rfl (by assumption) ?_
    | (with_reducible refine g_ofrg "list" ?_); refine ve_listRg rfl (by assumption) rfl (by assumption) ?_
    | (with_reducible refine g_call "tuple" ?_); refine ve_tupleOf rfl (by assumption) ?_
    | (with_reducible refine g_call "list" ?_); refine ve_listOf rfl (by assumption) ?_
    | (with_reducible refine g_call "repr" ?_); refine ve_repr (by assumption) (by assumption) rfl (by assumption) ?_
    | (with_reducible refine g_call "all" ?_); refine ve_all rfl (by assumption) ?_
    | (with_reducible refine g_call "any" ?_); refine ve_any rfl (by assumption) ?_
    | (with_reducible refine g_two "min" ?_); refine ve_min2 rfl (by assumption) ?_
    | (with_reducible refine g_two "max" ?_); refine ve_max2 rfl (by assumption) ?_
    | (with_reducible refine g_one "max" ?_); refine ve_maxL (by assumption) rfl (by assumption) ?_
    | (with_reducible refine g_one "min" ?_); refine ve_minL (by assumption) rfl (by assumption) ?_
    | (with_reducible refine g_isi "int" ?_); refine ve_isi "int" rfl (by assumption) ?_
    | (with_reducible refine g_isi "bool" ?_); refine ve_isi "bool" rfl (by assumption) ?_
    | (with_reducible refine g_isi "tuple" ?_); refine ve_isi "tuple" rfl (by assumption) ?_
    | (with_reducible refine g_isi "list" ?_); refine ve_isi "list" rfl (by assumption) ?_
    | (with_reducible refine g_isi "str" ?_); refine ve_isi "str" rfl (by assumption) ?_
    | (with_reducible refine g_meth "append" ?_); refine ve_append ?_
    | (with_reducible refine g_meth "extend" ?_); refine ve_extend ?_
    | (with_reducible refine g_meth "pop" ?_); refine ve_popAt ?_
    | (with_reducible refine g_meth "count" ?_); refine ve_count (by assumption) ?_
    | (with_reducible refine g_meth "index" ?_); refine ve_index (by assumption) ?_
    | (with_reducible refine g_calln ?_); refine ve_c (by assumption) (by assumption) (by assumption) rfl rfl ?_
    | (with_reducible refine g_calln ?_); refine ve_mk (by assumption) (by assumption) (by assumption) rfl ?_
    | (with_reducible refine g_attr ?_); refine ve_fld ?_
    | (with_reducible refine ve_rev ?_)
    | refine ve_at (by assumption) ?_
    | (with_reducible refine ve_if ?_)
    | (with_reducible refine ve_tup ?_)
    | (with_reducible refine ve_lst ?_)
    | (with_reducible refine ve_dnewK ?_)
    | (with_reducible refine ve_not' ?_)
    | (with_reducible refine ve_neg' ?_)
    | (with_reducible refine ve_and' ?_)
    | (with_reducible refine ve_or' ?_)
    | (with_reducible refine ve_one ?_)
  | (with_reducible refine g_vt ?_); first
    | (with_reducible refine g_tcmp ?_); first
      | (with_reducible refine vt_eq (by assumption) ?_)
      | (with_reducible refine vt_ne (by assumption) ?_)
      | (with_reducible refine vt_lt ?_)
      | (with_reducible refine vt_le ?_)
      | (with_reducible refine vt_gt ?_)
      | (with_reducible refine vt_ge ?_)
    | (with_reducible refine vt_ch_ll ?_)
    | (with_reducible refine vt_ch_lt ?_)
    | (with_reducible refine vt_not ?_)
    | (with_reducible refine VW.vt (vw_and ?_))
    | (with_reducible refine VW.vt (vw_or ?_))
    | refine vt_bl ?_
  | (with_reducible refine g_vw ?_); with_reducible first
    | refine vw_and ?_
    | refine vw_or ?_
    | refine vw_and1 ?_
    | refine vw_or1 ?_
  | (with_reducible refine g_va ?_); first
    | (with_reducible refine va_nil ?_)
    | refine va_cons ?_
  | (with_reducible refine g_vb ?_); with_reducible first
    | refine vb_nil ?_
    | refine vb_cons ?_
  | (with_reducible refine g_vs ?_); first
    | (with_reducible refine g_set ?_); first
      | refine vs_set (i := 0) (by assumption) rfl (by first | exact Or.inl rfl | exact Or.inr rfl) rfl ?_
      | refine vs_set (i := 1) (by assumption) rfl (by first | exact Or.inl rfl | exact Or.inr rfl) rfl ?_
      | refine vs_set (i := 2) (by assumption) rfl (by first | exact Or.inl rfl | exact Or.inr rfl) rfl ?_
      | refine vs_set (i := 3) (by assumption) rfl (by first | exact Or.inl rfl | exact Or.inr rfl) rfl ?_
      | refine vs_set (i := 4) (by assumption) rfl (by first | exact Or.inl rfl | exact Or.inr rfl) rfl ?_
      | refine vs_set (i := 5) (by assumption) rfl (by first | exact Or.inl rfl | exact Or.inr rfl) rfl ?_
      | refine vs_set (i := 6) (by assumption) rfl (by first | exact Or.inl rfl | exact Or.inr rfl) rfl ?_
      | refine vs_set (i := 7) (by assumption) rfl (by first | exact Or.inl rfl | exact Or.inr rfl) rfl ?_
      | refine vs_set (i := 8) (by assumption) rfl (by first | exact Or.inl rfl | exact Or.inr rfl) rfl ?_
      | refine vs_set (i := 9) (by assumption) rfl (by first | exact Or.inl rfl | exact Or.inr rfl) rfl ?_
      | refine vs_set (i := 10) (by assumption) rfl (by first | exact Or.inl rfl | exact Or.inr rfl) rfl ?_
      | refine vs_set (i := 11) (by assumption) rfl (by first | exact Or.inl rfl | exact Or.inr rfl) rfl ?_
      | refine vs_set (i := 12) (by assumption) rfl (by first | exact Or.inl rfl | exact Or.inr rfl) rfl ?_
      | refine vs_set (i := 13) (by assumption) rfl (by first | exact Or.inl rfl | exact Or.inr rfl) rfl ?_
      | refine vs_set (i := 14) (by assumption) rfl (by first | exact Or.inl rfl | exact Or.inr rfl) rfl ?_
      | refine vs_set (i := 15) (by assumption) rfl (by first | exact Or.inl rfl | exact Or.inr rfl) rfl ?_
    | (with_reducible refine g_aug ?_); first
      | refine vs_add 0 (by assumption) rfl (by first | exact Or.inl rfl | exact Or.inr rfl) rfl rfl ?_
      | refine vs_add 1 (by assumption) rfl (by first | exact Or.inl rfl | exact Or.inr rfl) rfl rfl ?_
      | refine vs_add 2 (by assumption) rfl (by first | exact Or.inl rfl | exact Or.inr rfl) rfl rfl ?_
      | refine vs_add 3 (by assumption) rfl (by first | exact Or.inl rfl | exact Or.inr rfl) rfl rfl ?_
      | refine vs_add 4 (by assumption) rfl (by first | exact Or.inl rfl | exact Or.inr rfl) rfl rfl ?_
      | refine vs_add 5 (by assumption) rfl (by first | exact Or.inl rfl | exact Or.inr rfl) rfl rfl ?_
      | refine vs_add 6 (by assumption) rfl (by first | exact Or.inl rfl | exact Or.inr rfl) rfl rfl ?_
      | refine vs_add 7 (by assumption) rfl (by first | exact Or.inl rfl | exact Or.inr rfl) rfl rfl ?_
      | refine vs_add 8 (by assumption) rfl (by first | exact Or.inl rfl | exact Or.inr rfl) rfl rfl ?_
      | refine vs_add 9 (by assumption) rfl (by first | exact Or.inl rfl | exact Or.inr rfl) rfl rfl ?_
      | refine vs_add 10 (by assumption) rfl (by first | exact Or.inl rfl | exact Or.inr rfl) rfl rfl ?_
      | refine vs_add 11 (by assumption) rfl (by first | exact Or.inl rfl | exact Or.inr rfl) rfl rfl ?_
      | refine vs_add 12 (by assumption) rfl (by first | exact Or.inl rfl | exact Or.inr rfl) rfl rfl ?_
      | refine vs_add 13 (by assumption) rfl (by first | exact Or.inl rfl | exact Or.inr rfl) rfl rfl ?_
      | refine vs_add 14 (by assumption) rfl (by first | exact Or.inl rfl | exact Or.inr rfl) rfl rfl ?_
      | refine vs_add 15 (by assumption) rfl (by first | exact Or.inl rfl | exact Or.inr rfl) rfl rfl ?_
    | (with_reducible refine g_fset ?_); refine vs_fld (i := 0) rfl (.inl rfl) (by decide) (by decide) ?_
    | (with_reducible refine g_put ?_); refine vs_put ?_
    | (with_reducible refine vs_ife ?_)
    | refine vs_ret ?_
    | refine vs_expr ?_
    | (with_reducible refine vs_pass ?_)
  | (with_reducible refine g_vps ?_); first
    | (with_reducible refine vps_nil ?_)
    | refine vps_cons ?_
  | (with_reducible refine g_nx ?_); first
    | refine vb_nil ?_
    | refine vb_cons ?_
  | (with_reducible refine g_rt ?_); first
    | refine rt_d ?_
    | refine rt_n ?_
    | refine rt_s rfl rfl ?_
  | (with_reducible refine g_stored ?_); first
    | refine st_d ?_
    | refine st_n ?_
  | (with_reducible refine g_sa ?_); first
    | refine sa_nil ?_
    | refine sa_d ?_
    | refine sa_n ?_
  | (with_reducible refine g_nos ?_); first
    | exact noS_d
    | exact noS_n
  | (with_reducible refine g_len ?_); rfl
  | (with_reducible refine g_pmake ?_); first
    | refine pmake_mk (so0 rfl) ?_
    | refine pmake_mk (so1 rfl rfl) ?_
  | (with_reducible refine g_pcall ?_); first
    | refine pcall_mk (so0 rfl) ?_
    | refine pcall_mk (so1 rfl rfl) ?_
    | refine pcall_mk (so2 rfl (by decide) rfl rfl) ?_
  | (with_reducible refine g_prg ?_); refine prg_mk (by omega) (by omega) ?_
  | (with_reducible refine g_pfld ?_); refine pfld_mk (by assumption) (by assumption) rfl ?_
  | (with_reducible refine g_pfst ?_); refine pfst_mk rfl (by assumption) (by assumption) (Nat.le_of_ble_eq_true rfl) ?_
  | (with_reducible refine g_plenA ?_); first
    | refine PLen.seq rfl ?_
    | refine PLen.dct rfl ?_
  | (with_reducible refine g_pbs ?_); refine pbs_mk rfl ?_
  | (with_reducible refine g_ptup ?_); first
    | refine ptupL rfl ?_
    | refine ptupT rfl ?_
  | (with_reducible refine g_plst ?_); refine plst_mk rfl ?_
  | (with_reducible refine g_psum ?_); refine psum_mk rfl ?_
  | (with_reducible refine g_prev ?_); first
    | refine prev_lst rfl ?_
    | refine prev_tup rfl ?_
    | refine PRevA.lst rfl ?_
    | refine PRevA.tup rfl ?_
  | (with_reducible refine g_pbo ?_); refine PBo.mk ?_ ?_
  | (with_reducible refine g_pneg ?_); refine PNeg.mk ?_
  | (with_reducible refine g_rch ?_); refine RCh.mk ?_ ?_
  | (with_reducible refine g_pi2 ?_); refine pi2_mk ?_
  | (with_reducible refine g_pi1 ?_); refine pi1_mk ?_
  | (with_reducible refine g_pisi ?_); refine pisi_mk rfl rfl (by first | exact kit_t (by decide) | exact kit_f (by decide)) ?_
  | (with_reducible refine g_tl ?_); refine tl_mk rfl
  | (with_reducible refine g_tls ?_); exact ⟨_, rfl⟩
  | (with_reducible refine g_rcnt ?_); refine rcntB rfl ?_
  | (with_reducible refine g_rds ?_); first
    | refine rds1 ?_
    | refine rds2 ?_
    | refine rds3 ?_
    | refine rds4 ?_
    | refine rds5 ?_
    | refine rds0 ?_
    | refine rds6 ?_
  | (with_reducible refine g_vbx ?_); with_reducible first
    | refine vbx_nil ?_
    | refine vbx_cons ?_
  | (with_reducible refine g_vsx ?_); first
    | (with_reducible refine g_raise ?_); refine vsx_raise rfl (by assumption) (by assumption) rfl ?_
    | (with_reducible refine g_ifx ?_); (with_reducible refine vsx_if (by assumption) ?_)
    | (with_reducible refine g_exprx ?_); refine vsx_expr ?_
    | (with_reducible refine vsx_of (by assumption) ?_)
  | (with_reducible refine g_vex ?_); first
    | refine vex_c (by assumption) (by assumption) (by assumption) (by assumption) rfl rfl ?_
    | (with_reducible refine vex_of (by assumption) ?_)
  | (with_reducible refine g_pcx ?_); first
    | refine pcx1 ?_
    | refine pcx2 ?_
    | refine pcx3 ?_
  | (with_reducible exact ft_)
  | (with_reducible exact tf_)
  | (with_reducible refine tt_ ?_)
  | (with_reducible refine ff_ ?_)
  | (with_reducible refine And.intro ?_ ?_)
  | (with_reducible refine g_qb ?_)
  | (with_reducible intro hh); (try simp only [id, Bool.not_true, Bool.not_false, decide_eq_true_eq, decide_eq_false_iff_not, Bool.not_eq_true', Bool.not_eq_false', reduceCtorEq, not_true_eq_false] at hh)
  | (with_reducible refine g_rplus ?_); refine RPlus.int ?_
  | (with_reducible refine g_rsub ?_); refine RSub.int ?_
  | (with_reducible refine g_rtimes ?_); refine RTimes.int (by first | exact .inl ⟨by omega, by omega⟩ | exact .inr ⟨by omega, by omega⟩) ?_
  | (with_reducible refine g_rdiv ?_); refine RDivI.int (by omega) (by omega) ?_
  | (with_reducible refine g_rmod ?_); refine RModI.int (by first | omega | decide) ?_
  | (with_reducible refine g_rpow ?_); refine RPowI.int (by decide) (by decide) ?_
  | (with_reducible refine g_rc2 ?_); refine RC2.int ?_
  | (with_reducible refine g_rq ?_); first
    | refine RQ.int ?_
    | refine RQ.str ?_
    | refine rq_tup rfl rfl ?_
    | refine rq_lst rfl rfl ?_
  | (with_reducible refine g_rat ?_); first
    | refine RAt.seq rfl (by first | assumption | exact at0 | exact at1 | exact at2 | exact at3 | exact at4) ?_
    | refine RAt.dct rfl rfl (by assumption) ?_
  | (with_reducible refine g_rput ?_); refine put5 rfl rfl (by omega) (by omega) ?_)
section
variable {P : Program} {w : World} {K : PySem.W.Frag} {mg : Str → Option Value} {base : Heap}
theorem ok__law_errors {f : Addr} {fd : FuncData} (gb : BI mg) (F : L2.Fun K "_law_errors" "_law_errors" (topS 26) f fd) (hm : mg "_law_errors" = some (.ref f)) (b : Binds K fd ["calls"] []) {EL ER ES : Addr} (eL : EC K mg "NoLaying" EL) (eR : EC K mg "NoRow" ER) (gS : mg "StripError" = some (.ref ES)) (tL : Tk K EL ES) (tR : Tk K ER ES) (iLL : IsK K EL EL true) (iLR : IsK K EL ER false) (iRL : IsK K ER EL false) (iRR : IsK K ER ER true) : CalE P w K mg base 6 5 "_law_errors" (xiL [EL,ER]) := by
  have ⟨m_len, m_int, m_abs, m_sum, m_tuple, m_list, m_repr, m_range, m_isi, m_all, m_max, m_min, m_enum, m_bool, m_any, m_sorted, m_zip, m_set, m_str⟩ := gb
  refine cale0 F hm b rfl sc__law_errors ?_
  rintro cdv A outer s H E it α ds es hr hgd0 hit hlen acts
  have hu : (bcx P w K mg base ["calls", "found", "call", "word", "error", "flags"] "_law_errors" (topS 26) f cdv A outer s H E).A.units + 64 < cLine := hr.units
  have hu1 : (bcx P w K mg base ["calls", "found", "call", "word", "error", "flags"] "_law_errors" (topS 26) f cdv A outer s H E).A.units + 1 < cLine := hu_of hr
  have hu65 : (bcx P w K mg base ["calls", "found", "call", "word", "error", "flags"] "_law_errors" (topS 26) f cdv A outer s H E).A.units + 65 < cLine := room65 hr
  have hgd : (bcx P w K mg base ["calls", "found", "call", "word", "error", "flags"] "_law_errors" (topS 26) f cdv A outer s H E).A.guards = some [] := hgd0
  have hN : (bcx P w K mg base ["calls", "found", "call", "word", "error", "flags"] "_law_errors" (topS 26) f cdv A outer s H E).N.Nodup := sc__law_errors.nd
  have hnx : NoX (bcx P w K mg base ["calls", "found", "call", "word", "error", "flags"] "_law_errors" (topS 26) f cdv A outer s H E) := ⟨rfl, fun _ _ z => z⟩
  have eLg := eL.g
  have eRg := eR.g
  subst hit
  obtain ⟨hle, hac⟩ := acts
  refine vb_cons ?_
  repeat' ac_rfl
  refine vs_for (tf_name (i := 2) hN rfl (.inl rfl)) (fun i hi => by simp at hi; subst hi; rfl) (vi_list ?_) rfl
  repeat' ac_rfl
  refine ⟨_, ds, rfl, rfl, fun i Γ => ∃ x2 x3 x5, Γ = [some (.d (.lst ds)), some (.o (.l ((es.take i).map D.int))), x2, x3, none, x5], ⟨none, none, none, rfl⟩, ?_, ?_⟩
  · rintro i x Γ' hx ⟨x2, x3, x5, rfl⟩
    have hi : i < ds.length := (List.getElem?_eq_some_iff.mp hx).1
    have he : es[i]? = some es[i] := List.getElem?_eq_getElem (by omega)
    generalize es[i] = ei at he
    obtain ⟨⟨c, vs, xs, rfl⟩, act⟩ := hac i x ei hx he
    refine ⟨_, rfl, vb_cons ?_⟩
    repeat' ac_rfl
    refine vs_try (i := 4) hnx rfl rfl hN rfl rfl rfl rfl gS (vbx_cons (vsx_expr (vex_act (i := 2) hnx rfl (.inl rfl) rfl rfl act hr hgd ?_)))
    rintro cl ⟨i', C, hC, rfl, rfl⟩
    match i', hC with
    | 0, hC =>
      cases hC
      refine ⟨tL, fun a oe pn hz hfl => ?_⟩
      refine vb_cons ?_
      repeat' ac_rfl
      refine ve_isE eL.i hz hfl rfl m_isi ?_
      repeat' ac_rfl
      refine ⟨rfl, EL, true, rfl, iLL, ?_⟩
      repeat' ac_rfl
      refine ve_isE eL.i hz hfl rfl m_isi ?_
      repeat' ac_rfl
      refine ⟨rfl, ER, false, rfl, iLR, ?_⟩
      have hus : ((bcx P w K mg base ["calls", "found", "call", "word", "error", "flags"] "_law_errors" (topS 26) f cdv A outer s H E).suite a ((a, oe) :: pn)).A.units + 64 < cLine := hu
      have hus65 : ((bcx P w K mg base ["calls", "found", "call", "word", "error", "flags"] "_law_errors" (topS 26) f cdv A outer s H E).suite a ((a, oe) :: pn)).A.units + 65 < cLine := hu65
      repeat' ac_rfl
      refine rcntB (bs := [true, false]) rfl ?_
      repeat' ac_rfl
      · refine rixB (bs := [true, false]) (j := 0) rfl rfl (fun m h => by match m, h with | m, h => exact absurd h (Nat.not_lt_zero _)) ?_
        repeat' ac_rfl
        refine rapp_mk rfl (by simp; omega) ?_
        repeat' ac_rfl
        refine ⟨_, _, _, by rw [List.take_add_one, he, Option.toList_some, List.map_append]; rfl⟩
      · exfalso
        rename_i hh
        simp at hh
    | 1, hC =>
      cases hC
      refine ⟨tR, fun a oe pn hz hfl => ?_⟩
      refine vb_cons ?_
      repeat' ac_rfl
      refine ve_isE eR.i hz hfl rfl m_isi ?_
      repeat' ac_rfl
      refine ⟨rfl, EL, false, rfl, iRL, ?_⟩
      repeat' ac_rfl
      refine ve_isE eR.i hz hfl rfl m_isi ?_
      repeat' ac_rfl
      refine ⟨rfl, ER, true, rfl, iRR, ?_⟩
      have hus : ((bcx P w K mg base ["calls", "found", "call", "word", "error", "flags"] "_law_errors" (topS 26) f cdv A outer s H E).suite a ((a, oe) :: pn)).A.units + 64 < cLine := hu
      have hus65 : ((bcx P w K mg base ["calls", "found", "call", "word", "error", "flags"] "_law_errors" (topS 26) f cdv A outer s H E).suite a ((a, oe) :: pn)).A.units + 65 < cLine := hu65
      repeat' ac_rfl
      refine rcntB (bs := [false, true]) rfl ?_
      repeat' ac_rfl
      · refine rixB (bs := [false, true]) (j := 1) rfl rfl (fun m h => by match m, h with | 0, _ => rfl) ?_
        repeat' ac_rfl
        refine rapp_mk rfl (by simp; omega) ?_
        repeat' ac_rfl
        refine ⟨_, _, _, by rw [List.take_add_one, he, Option.toList_some, List.map_append]; rfl⟩
      · exfalso
        rename_i hh
        simp at hh
    | i' + 2, hC => simp at hC
  · rintro Γ' ⟨x2, x3, x5, rfl⟩
    rw [List.take_of_length_le (by omega)]
    repeat' ac_rfl
    exact ⟨rfl, _, rfl, rfl, rfl⟩
end
end K80
set_option Elab.async false
set_option linter.all false
set_option maxRecDepth 100000
set_option maxHeartbeats 4000000
namespace K80
open PySem PySem.Spec PyProof.Rows L2 AV LB
local macro_rules | `(tactic| ac_rfl) => `(tactic| first
  | (with_reducible refine g_ve ?_); first
    | (with_reducible refine g_name ?_); first
      | refine vv 0 rfl ?_
      | refine vv 1 rfl ?_
      | refine vv 2 rfl ?_
      | refine vv 3 rfl ?_
      | refine vv 4 rfl ?_
      | refine vv 5 rfl ?_
      | refine vv 6 rfl ?_
      | refine vv 7 rfl ?_
      | refine vv 8 rfl ?_
      | refine vv 9 rfl ?_
      | refine vv 10 rfl ?_
      | refine vv 11 rfl ?_
      | refine vv 12 rfl ?_
      | refine vv 13 rfl ?_
      | refine vv 14 rfl ?_
      | refine vv 15 rfl ?_
      | refine ve_ty "int" rfl (by assumption) bb_int ?_
      | refine ve_ty "tuple" rfl (by assumption) bb_tuple ?_
      | refine ve_ty "bool" rfl (by assumption) bb_bool ?_
      | refine ve_ty "list" rfl (by assumption) bb_list ?_
      | refine ve_ty "str" rfl (by assumption) bb_str ?_
      | refine ve_gint rfl (by assumption) (by decide) ?_
      | refine ve_gref rfl (by assumption) (by decide) ?_
    | (with_reducible refine g_con ?_); with_reducible first
      | refine ve_int ?_
      | refine ve_bl ?_
      | refine ve_non ?_
      | refine ve_str ?_
    | (with_reducible refine g_bin ?_); with_reducible first
      | refine ve_plus ?_
      | refine ve_minus ?_
      | refine ve_times ?_
      | refine ve_fdiv ?_
      | refine ve_mod ?_
      | refine ve_pow ?_
    | (with_reducible refine g_cmp ?_); first
      | (with_reducible refine ve_eq (by assumption) ?_)
      | (with_reducible refine ve_ne (by assumption) ?_)
      | (with_reducible refine ve_lt ?_)
      | (with_reducible refine ve_le ?_)
      | (with_reducible refine ve_gt ?_)
      | (with_reducible refine ve_ge ?_)
    | (with_reducible refine ve_ch_ll ?_)
    | (with_reducible refine ve_ch_lt ?_)
    | (with_reducible refine g_call "len" ?_); refine ve_lenA rfl (by assumption) ?_
    | (with_reducible refine g_call "abs" ?_); refine ve_abs rfl (by assumption) ?_
    | (with_reducible refine g_call "int" ?_); refine ve_int1 rfl (by assumption) ?_
    | (with_reducible refine g_call "sum" ?_); refine ve_sum rfl (by assumption) ?_
    | (with_reducible refine g_ofrg "tuple" ?_); refine ve_tupRg rfl (by assumption) rfl (by assumption) ?_
    | (with_reducible refine g_ofrg "list" ?_); refine ve_listRg rfl (by assumption) rfl (by assumption) ?_
    | (with_reducible refine g_call "tuple" ?_); refine ve_tupleOf rfl (by assumption) ?_
    | (with_reducible refine g_call "list" ?_); refine ve_listOf rfl (by assumption) ?_
    | (with_reducible refine g_call "repr" ?_); refine ve_repr (by assumption) (by assumption) rfl (by assumption) ?_
    | (with_reducible refine g_call "all" ?_); refine ve_all rfl (by assumption) ?_
    | (with_reducible refine g_call "any" ?_); refine ve_any rfl (by assumption) ?_
    | (with_reducible refine g_two "min" ?_); refine ve_min2 rfl (by assumption) ?_
    | (with_reducible refine g_two "max" ?_); refine ve_max2 rfl (by assumption) ?_
    | (with_reducible refine g_one "max" ?_); refine ve_maxL (by assumption) rfl (by assumption) ?_
    | (with_reducible refine g_one "min" ?_); refine ve_minL (by assumption) rfl (by assumption) ?_
    | (with_reducible refine g_isi "int" ?_); refine ve_isi "int" rfl (by assumption) ?_
    | (with_reducible refine g_isi "bool" ?_); refine ve_isi "bool" rfl (by assumption) ?_
    | (with_reducible refine g_isi "tuple" ?_); refine ve_isi "tuple" rfl (by assumption) ?_
    | (with_reducible refine g_isi "list" ?_); refine ve_isi "list" rfl (by assumption) ?_
    | (with_reducible refine g_isi "str" ?_); refine ve_isi "str" rfl (by assumption) ?_
    | (with_reducible refine g_meth "append" ?_); refine ve_append ?_
    | (with_reducible refine g_meth "extend" ?_); refine ve_extend ?_
    | (with_reducible refine g_meth "pop" ?_); refine ve_popAt ?_
    | (with_reducible refine g_meth "count" ?_); refine ve_count (by assumption) ?_
    | (with_reducible refine g_meth "index" ?_); refine ve_index (by assumption) ?_
    | (with_reducible refine g_calln ?_); refine ve_c (by assumption) (by assumption) (by assumption) rfl rfl ?_
    | (with_reducible refine g_calln ?_); refine ve_mk (by assumption) (by assumption) (by assumption) rfl ?_
    | (with_reducible refine g_attr ?_); refine ve_fld ?_
    | (with_reducible refine ve_rev ?_)
    | refine ve_at (by assumption) ?_
    | (with_reducible refine ve_if ?_)
    | (with_reducible refine ve_tup ?_)
    | (with_reducible refine ve_lst ?_)
    | (with_reducible refine ve_dnewK ?_)
    | (with_reducible refine ve_not' ?_)
    | (with_reducible refine ve_neg' ?_)
    | (with_reducible refine ve_and' ?_)
    | (with_reducible refine ve_or' ?_)
    | (with_reducible refine ve_one ?_)
  | (with_reducible refine g_vt ?_); first
    | (with_reducible refine g_tcmp ?_); first
      | (with_reducible refine vt_eq (by assumption) ?_)
      | (with_reducible refine vt_ne (by assumption) ?_)
      | (with_reducible refine vt_lt ?_)
      | (with_reducible refine vt_le ?_)
      | (with_reducible refine vt_gt ?_)
      | (with_reducible refine vt_ge ?_)
    | (with_reducible refine vt_ch_ll ?_)
    | (with_reducible refine vt_ch_lt ?_)
    | (with_reducible refine vt_not ?_)
    | (with_reducible refine VW.vt (vw_and ?_))
    | (with_reducible refine VW.vt (vw_or ?_))
    | refine vt_bl ?_
  | (with_reducible refine g_vw ?_); with_reducible first
    | refine vw_and ?_
    | refine vw_or ?_
    | refine vw_and1 ?_
    | refine vw_or1 ?_
  | (with_reducible refine g_va ?_); first
    | (with_reducible refine va_nil ?_)
    | refine va_cons ?_
  | (with_reducible refine g_vb ?_); with_reducible first
    | refine vb_nil ?_
    | refine vb_cons ?_
  | (with_reducible refine g_vs ?_); first
    | (with_reducible refine g_set ?_); first
      | refine vs_set (i := 0) (by assumption) rfl (by first | exact Or.inl rfl | exact Or.inr rfl) rfl ?_
      | refine vs_set (i := 1) (by assumption) rfl (by first | exact Or.inl rfl | exact Or.inr rfl) rfl ?_
      | refine vs_set (i := 2) (by assumption) rfl (by first | exact Or.inl rfl | exact Or.inr rfl) rfl ?_
      | refine vs_set (i := 3) (by assumption) rfl (by first | exact Or.inl rfl | exact Or.inr rfl) rfl ?_
      | refine vs_set (i := 4) (by assumption) rfl (by first | exact Or.inl rfl | exact Or.inr rfl) rfl ?_
      | refine vs_set (i := 5) (by assumption) rfl (by first | exact Or.inl rfl | exact Or.inr rfl) rfl ?_
      | refine vs_set (i := 6) (by assumption) rfl (by first | exact Or.inl rfl | exact Or.inr rfl) rfl ?_
      | refine vs_set (i := 7) (by assumption) rfl (by first | exact Or.inl rfl | exact Or.inr rfl) rfl ?_
      | refine vs_set (i := 8) (by assumption) rfl (by first | exact Or.inl rfl | exact Or.inr rfl) rfl ?_
      | refine vs_set (i := 9) (by assumption) rfl (by first | exact Or.inl rfl | exact Or.inr rfl) rfl ?_
      | refine vs_set (i := 10) (by assumption) rfl (by first | exact Or.inl rfl | exact Or.inr rfl) rfl ?_
      | refine vs_set (i := 11) (by assumption) rfl (by first | exact Or.inl rfl | exact Or.inr rfl) rfl ?_
      | refine vs_set (i := 12) (by assumption) rfl (by first | exact Or.inl rfl | exact Or.inr rfl) rfl ?_
      | refine vs_set (i := 13) (by assumption) rfl (by first | exact Or.inl rfl | exact Or.inr rfl) rfl ?_
      | refine vs_set (i := 14) (by assumption) rfl (by first | exact Or.inl rfl | exact Or.inr rfl) rfl ?_
      | refine vs_set (i := 15) (by assumption) rfl (by first | exact Or.inl rfl | exact Or.inr rfl) rfl ?_
    | (with_reducible refine g_aug ?_); first
      | refine vs_add 0 (by assumption) rfl (by first | exact Or.inl rfl | exact Or.inr rfl) rfl rfl ?_
      | refine vs_add 1 (by assumption) rfl (by first | exact Or.inl rfl | exact Or.inr rfl) rfl rfl ?_
      | refine vs_add 2 (by assumption) rfl (by first | exact Or.inl rfl | exact Or.inr rfl) rfl rfl ?_
      | refine vs_add 3 (by assumption) rfl (by first | exact Or.inl rfl | exact Or.inr rfl) rfl rfl ?_
      | refine vs_add 4 (by assumption) rfl (by first | exact Or.inl rfl | exact Or.inr rfl) rfl rfl ?_
      | refine vs_add 5 (by assumption) rfl (by first | exact Or.inl rfl | exact Or.inr rfl) rfl rfl ?_
      | refine vs_add 6 (by assumption) rfl (by first | exact Or.inl rfl | exact Or.inr rfl) rfl rfl ?_
      | refine vs_add 7 (by assumption) rfl (by first | exact Or.inl rfl | exact Or.inr rfl) rfl rfl ?_
      | refine vs_add 8 (by assumption) rfl (by first | exact Or.inl rfl | exact Or.inr rfl) rfl rfl ?_
      | refine vs_add 9 (by assumption) rfl (by first | exact Or.inl rfl | exact Or.inr rfl) rfl rfl ?_
      | refine vs_add 10 (by assumption) rfl (by first | exact Or.inl rfl | exact Or.inr rfl) rfl rfl ?_
      | refine vs_add 11 (by assumption) rfl (by first | exact Or.inl rfl | exact Or.inr rfl) rfl rfl ?_
      | refine vs_add 12 (by assumption) rfl (by first | exact Or.inl rfl | exact Or.inr rfl) rfl rfl ?_
      | refine vs_add 13 (by assumption) rfl (by first | exact Or.inl rfl | exact Or.inr rfl) rfl rfl ?_
      | refine vs_add 14 (by assumption) rfl (by first | exact Or.inl rfl | exact Or.inr rfl) rfl rfl ?_
      | refine vs_add 15 (by assumption) rfl (by first | exact Or.inl rfl | exact Or.inr rfl) rfl rfl ?_
    | (with_reducible refine g_fset ?_); refine vs_fld (i := 0) rfl (.inl rfl) (by decide) (by decide) ?_
    | (with_reducible refine g_put ?_); refine vs_put ?_
    | (with_reducible refine vs_ife ?_)
    | refine vs_ret ?_
    | refine vs_expr ?_
    | (with_reducible refine vs_pass ?_)
  | (with_reducible refine g_vps ?_); first
    | (with_reducible refine vps_nil ?_)
    | refine vps_cons ?_
  | (with_reducible refine g_nx ?_); first
    | refine vb_nil ?_
    | refine vb_cons ?_
  | (with_reducible refine g_rt ?_); first
    | refine rt_d ?_
    | refine rt_n ?_
    | refine rt_s rfl rfl ?_
  | (with_reducible refine g_stored ?_); first
    | refine st_d ?_
    | refine st_n ?_
  | (with_reducible refine g_sa ?_); first
    | refine sa_nil ?_
    | refine sa_d ?_
    | refine sa_n ?_
  | (with_reducible refine g_nos ?_); first
    | exact noS_d
    | exact noS_n
  | (with_reducible refine g_len ?_); rfl
  | (with_reducible refine g_pmake ?_); first
    | refine pmake_mk (so0 rfl) ?_
    | refine pmake_mk (so1 rfl rfl) ?_
  | (with_reducible refine g_pcall ?_); first
    | refine pcall_mk (so0 rfl) ?_
    | refine pcall_mk (so1 rfl rfl) ?_
    | refine pcall_mk (so2 rfl (by decide) rfl rfl) ?_
  | (with_reducible refine g_prg ?_); refine prg_mk (by omega) (by omega) ?_
  | (with_reducible refine g_pfld ?_); refine pfld_mk (by assumption) (by assumption) rfl ?_
  | (with_reducible refine g_pfst ?_); refine pfst_mk rfl (by assumption) (by assumption) (Nat.le_of_ble_eq_true rfl) ?_
  | (with_reducible refine g_plenA ?_); first
    | refine PLen.seq rfl ?_
    | refine PLen.dct rfl ?_
  | (with_reducible refine g_pbs ?_); refine pbs_mk rfl ?_
  | (with_reducible refine g_ptup ?_); first
    | refine ptupL rfl ?_
    | refine ptupT rfl ?_
  | (with_reducible refine g_plst ?_); refine plst_mk rfl ?_
  | (with_reducible refine g_psum ?_); refine psum_mk rfl ?_
  | (with_reducible refine g_prev ?_); first
    | refine prev_lst rfl ?_
    | refine prev_tup rfl ?_
    | refine PRevA.lst rfl ?_
    | refine PRevA.tup rfl ?_
  | (with_reducible refine g_pbo ?_); refine PBo.mk ?_ ?_
  | (with_reducible refine g_pneg ?_); refine PNeg.mk ?_
  | (with_reducible refine g_rch ?_); refine RCh.mk ?_ ?_
  | (with_reducible refine g_pi2 ?_); refine pi2_mk ?_
  | (with_reducible refine g_pi1 ?_); refine pi1_mk ?_
  | (with_reducible refine g_pisi ?_); refine pisi_mk rfl rfl (by first | exact kit_t (by decide) | exact kit_f (by decide)) ?_
  | (with_reducible refine g_tl ?_); refine tl_mk rfl
  | (with_reducible refine g_tls ?_); exact ⟨_, rfl⟩
  | (with_reducible refine g_rcnt ?_); refine rcntB rfl ?_
  | (with_reducible refine g_rds ?_); first
    | refine rds1 ?_
    | refine rds2 ?_
    | refine rds3 ?_
    | refine rds4 ?_
    | refine rds5 ?_
    | refine rds0 ?_
    | refine rds6 ?_
  | (with_reducible refine g_vbx ?_); with_reducible first
    | refine vbx_nil ?_
    | refine vbx_cons ?_
  | (with_reducible refine g_vsx ?_); first
    | (with_reducible refine g_raise ?_); refine vsx_raise rfl (by assumption) (by assumption) rfl ?_
    | (with_reducible refine g_ifx ?_); (with_reducible refine vsx_if (by assumption) ?_)
    | (with_reducible refine g_exprx ?_); refine vsx_expr ?_
    | (with_reducible refine vsx_of (by assumption) ?_)
  | (with_reducible refine g_vex ?_); first
    | refine vex_c (by assumption) (by assumption) (by assumption) (by assumption) rfl rfl ?_
    | (with_reducible refine vex_of (by assumption) ?_)
  | (with_reducible refine g_pcx ?_); first
    | refine pcx1 ?_
    | refine pcx2 ?_
    | refine pcx3 ?_
  | (with_reducible exact ft_)
  | (with_reducible exact tf_)
  | (with_reducible refine tt_ ?_)
  | (with_reducible refine ff_ ?_)
  | (with_reducible refine And.intro ?_ ?_)
  | (with_reducible refine g_qb ?_)
  | (with_reducible intro hh); (try simp only [id, Bool.not_true, Bool.not_false, decide_eq_true_eq, decide_eq_false_iff_not, Bool.not_eq_true', Bool.not_eq_false', reduceCtorEq, not_true_eq_false] at hh)
  | (with_reducible refine g_rplus ?_); refine RPlus.int ?_
  | (with_reducible refine g_rsub ?_); refine RSub.int ?_
  | (with_reducible refine g_rtimes ?_); refine RTimes.int (by first | exact .inl ⟨by omega, by omega⟩ | exact .inr ⟨by omega, by omega⟩) ?_
  | (with_reducible refine g_rdiv ?_); refine RDivI.int (by omega) (by omega) ?_
  | (with_reducible refine g_rmod ?_); refine RModI.int (by first | omega | decide) ?_
  | (with_reducible refine g_rpow ?_); refine RPowI.int (by decide) (by decide) ?_
  | (with_reducible refine g_rc2 ?_); refine RC2.int ?_
  | (with_reducible refine g_rq ?_); first
    | refine RQ.int ?_
    | refine RQ.str ?_
    | refine rq_tup rfl rfl ?_
    | refine rq_lst rfl rfl ?_
  | (with_reducible refine g_rat ?_); first
    | refine RAt.seq rfl (by first | assumption | exact at0 | exact at1 | exact at2 | exact at3 | exact at4) ?_
    | refine RAt.dct rfl rfl (by assumption) ?_
  | (with_reducible refine g_rput ?_); refine put5 rfl rfl (by omega) (by omega) ?_)
section
variable {P : Program} {w : World} {K : PySem.W.Frag} {mg : Str → Option Value} {base : Heap}
theorem ok_law {fd : FuncData} (gb : BI mg) (F : L2.Fun K "law" "law" (topS 32) (He.ga K "law") fd) (hm : mg "law" = some (.ref (He.ga K "law"))) (b : Binds K fd ["script"] []) {PT : Addr} (hTB : LamX.TabB base mg (He.codeOf K ("law", none)) PT) {CL EL ER : Addr} (L : LC K CL) (cX : MakV P w K mg base 5 "Laying" CL 2 (spInit CL)) (c1 : CalV P w K mg base 6 "_law_hand" 1 spHand) (c2 : CalV P w K mg base 6 "_law_parts" 3 spParts) (c3 : CalV P w K mg base 6 "_law_goal" 2 spLGoal) (c4 : CalV P w K mg base 6 "_law_row" 2 spRow) (c5 : CalV P w K mg base 6 "row_bounds" 2 (spRB CL)) (c6 : CalV P w K mg base 6 "_law_bounds" 2 spLB) (c7 : CalV P w K mg base 6 "shift_row" 1 (spSR CL)) (c8 : CalV P w K mg base 6 "_law_some" 2 spSome) (cE : CalE P w K mg base 6 5 "_law_errors" (xiL [EL, ER])) (x1 : CalX P w K mg base 4 "row_bounds" 2 (spRowX CL EL ER K)) (xs : CalX P w K mg base 4 "shift_row" 1 (spNoI CL EL K)) (kN : NoIns K CL .non) (kT : ∀ ds, NoIns K CL (.tup ds)) (kI : ∀ i, NoIns K CL (.int i)) : CalT P w K mg base [(PT, "law.<locals>.<lambda>")] 7 "law" 1 spLaw := by
  have ⟨m_len, m_int, m_abs, m_sum, m_tuple, m_list, m_repr, m_range, m_isi, m_all, m_max, m_min, m_enum, m_bool, m_any, m_sorted, m_zip, m_set, m_str⟩ := gb
  refine calt0 F hm b rfl sc_law ?_
  rintro cdv A outer s H E its α R hcd hr hgd0 ⟨ns, rfl, hns, q⟩
  have hu : (bcx P w K mg base ["script", "hand", "lap", "size", "row", "up", "told", "none", "odd", "calls", "lengths", "order", "laying", "goal", "place"] "law" (topS 32) (He.ga K "law") cdv A outer s H E).A.units + 64 < cLine := hr.units
  have hu1 : (bcx P w K mg base ["script", "hand", "lap", "size", "row", "up", "told", "none", "odd", "calls", "lengths", "order", "laying", "goal", "place"] "law" (topS 32) (He.ga K "law") cdv A outer s H E).A.units + 1 < cLine := hu_of hr
  have hu65 : (bcx P w K mg base ["script", "hand", "lap", "size", "row", "up", "told", "none", "odd", "calls", "lengths", "order", "laying", "goal", "place"] "law" (topS 32) (He.ga K "law") cdv A outer s H E).A.units + 65 < cLine := room65 hr
  have hgd : (bcx P w K mg base ["script", "hand", "lap", "size", "row", "up", "told", "none", "odd", "calls", "lengths", "order", "laying", "goal", "place"] "law" (topS 32) (He.ga K "law") cdv A outer s H E).A.guards = some [] := hgd0
  have hN : (bcx P w K mg base ["script", "hand", "lap", "size", "row", "up", "told", "none", "odd", "calls", "lengths", "order", "laying", "goal", "place"] "law" (topS 32) (He.ga K "law") cdv A outer s H E).N.Nodup := sc_law.nd
  have hnx : NoX (bcx P w K mg base ["script", "hand", "lap", "size", "row", "up", "told", "none", "odd", "calls", "lengths", "order", "laying", "goal", "place"] "law" (topS 32) (He.ga K "law") cdv A outer s H E) := ⟨rfl, fun _ _ z => z⟩
  subst hcd
  have ⟨⟨hcl, _, _, _, _, _⟩, n1, n2, n3, n4, n5⟩ := L
  refine vb_cons ?_
  repeat' ac_rfl
  refine ⟨ns, rfl, fun cs r => ?_⟩
  repeat' ac_rfl
  refine vs_for (tf_name (i := 2) hN rfl (.inl rfl)) (fun i hi => by simp at hi; subst hi; rfl) (vi_rg1 rfl m_range ?_) rfl
  repeat' ac_rfl
  refine ⟨3, rfl, by omega, by omega, fun i Γ => ∃ (cs : List Int) (p q r u : Int) (x2 x3 x4 x5 x6 x7 x8 x9 x10 x11 x12 x13 x14 : Option AV.It), 0 ≤ p ∧ Γ = [some (.d (.scr ns)), some (.o (.l (hD cs p q r u))), x2, x3, x4, x5, x6, x7, x8, x9, x10, x11, x12, x13, x14], ⟨cs, 0, 0, r, 0, none, none, none, none, none, none, none, none, none, none, none, none, none, by omega, rfl⟩, ?_, ?_⟩
  · rintro i x Γ' hx ⟨cs, p, q', r, u, x2, x3, x4, x5, x6, x7, x8, x9, x10, x11, x12, x13, x14, hp, rfl⟩
    obtain ⟨rfl, hi⟩ := rg_get hx
    obtain ⟨mo, hmo, m9, m60⟩ : ∃ mo : Int, atI [D.int 60, D.int 30, D.int 9] (i : Int) = some (.int mo) ∧ 9 ≤ mo ∧ mo ≤ 60 := by
      match i, hi with
      | 0, _ => exact ⟨60, rfl, by omega, by omega⟩
      | 1, _ => exact ⟨30, rfl, by omega, by omega⟩
      | 2, _ => exact ⟨9, rfl, by omega, by omega⟩
    refine ⟨_, rfl, vb_cut (fun Γ => ∃ (ls os cs : List Int) (p q r u : Int), OkL ls ∧ OkO ls.length os ∧ ls.sum ≤ 60 ∧ 0 ≤ p ∧ Γ = [some (.d (.scr ns)), some (.o (.l (hD cs p q r u))), some (.d (.int (i : Nat))), x3, x4, x5, x6, x7, x8, x9, some (.d (tI ls)), some (.d (tI os)), x12, x13, x14]) (vs_pair (i := 10) (j := 11) rfl hN rfl rfl (.inl rfl) (.inl rfl) rfl rfl ?_) ?_⟩
    · repeat' ac_rfl
      refine ⟨cs, p, q', r, u, mo, rfl, hp, by omega, m60, fun ls os cs p q' r u okl ok hp => ?_⟩
      repeat' ac_rfl
      exact ⟨_, _, rfl, ls, os, cs, p, q', r, u, okl, ok, okl.sum, hp, rfl⟩
    rintro _ ⟨ls, os, cs, p, q', r, u, okl, ok, hs60, hp, rfl⟩
    have hl6 := okl.len
    have hs1 := sum_ge_len okl.pos
    have hne := okl.ne
    have okg := goalF_ok okl ok
    obtain ⟨G, hG⟩ : ∃ G, goalF ls os = G := ⟨_, rfl⟩
    rw [hG] at okg
    have hgl := okg.len
    have hml : (G.map D.int).length = G.length := List.length_map _
    have hsz : ((G.map D.int).length : Int) = ls.sum := by rw [hml]; exact hgl
    refine vb_cut (fun Γ => Γ = [some (.d (.scr ns)), some (.o (.l (hD cs p q' r u))), some (.d (.int (i : Nat))), x3, x4, x5, x6, x7, x8, x9, some (.d (tI ls)), some (.d (tI os)), some (.o (.i CL (layF ls os))), some (.o (.l (G.map D.int))), x14]) (vs_unp2 (i := 12) (j := 13) rfl hN rfl rfl (.inr rfl) (.inr rfl) rfl rfl ?_) ?_
    · repeat' ac_rfl
      refine ⟨ls, os, rfl, okl, ok, ⟨_, _, rfl, rfl, trivial, ?_⟩⟩
      repeat' ac_rfl
      refine ⟨ls, os, rfl, okl, ok, ?_⟩
      rw [hG]
      repeat' ac_rfl
    rintro _ rfl
    refine vb_frz 12 rfl rfl (vb_frz 13 rfl rfl (vb_cut (fun Γ => Γ = [some (.d (.scr ns)), some (.o (.l (hD cs p q' r u))), some (.d (.int (i : Nat))), some (.d (.int ls.sum)), x4, x5, x6, x7, x8, x9, some (.d (tI ls)), some (.d (tI os)), some (.d (lay CL ls os)), some (.d (.lst (G.map D.int))), x14]) ?_ ?_))
    · repeat' ac_rfl
      rw [← hsz]; rfl
    rintro _ rfl
    refine vb_cut (fun Γ => ∃ (row cs : List Int) (p q r u : Int), OkRow ls.sum row ∧ 0 ≤ p ∧ Γ = [some (.d (.scr ns)), some (.o (.l (hD cs p q r u))), some (.d (.int (i : Nat))), some (.d (.int ls.sum)), some (.d (tI row)), x5, x6, x7, x8, x9, some (.d (tI ls)), some (.d (tI os)), some (.d (lay CL ls os)), some (.d (.lst (G.map D.int))), x14]) ?_ ?_
    · repeat' ac_rfl
      refine ⟨cs, p, q', r, u, G, ls.sum, rfl, hp, okg, by omega, hs60, fun row cs p q r u okr hp => ?_⟩
      repeat' ac_rfl
      exact ⟨row, cs, p, q, r, u, okr, hp, rfl⟩
    rintro _ ⟨row, cs, p, q', r, u, okr, hp, rfl⟩
    refine vb_cut (fun Γ => Γ = [some (.d (.scr ns)), some (.o (.l (hD cs p q' r u))), some (.d (.int (i : Nat))), some (.d (.int ls.sum)), some (.d (tI row)), some (.d (tI (upF G))), x6, x7, x8, x9, some (.d (tI ls)), some (.d (tI os)), some (.d (lay CL ls os)), some (.d (.lst (G.map D.int))), none]) ?_ ?_
    · repeat' ac_rfl
      refine ve_lc (own := [("place", 14)]) rfl hN (blkOk_by (N := ["script", "hand", "lap", "size", "row", "up", "told", "none", "odd", "calls", "lengths", "order", "laying", "goal", "place"]) (sc := defScope (topS 32)) (by decide +kernel)) (tb_name hN rfl (.inl rfl)) (pin1 rfl) (vi_rg1 rfl m_range ?_)
      repeat' ac_rfl
      refine ⟨_, rfl, by omega, by omega, ?_⟩
      refine lc_mI (rgI 0 ls.sum) D.int (fun x => atF G x - x) (rgD_I _) (by rw [rgI_length]; omega) rfl (fun n hn => ⟨_, rfl, fun s H C cl fp => ?_⟩) ?_
      · rw [rgI_mem] at hn
        have g1 := at_F (gs := G) hn.1 (by omega)
        repeat' ac_rfl
      have eu : (rgI 0 ls.sum).map (fun x => atF G x - x) = upF G := by
        refine List.ext_getElem (by rw [List.length_map, rgI_length, upF_len]; omega) fun j h1 h2 => ?_
        rw [upF_len] at h2
        simp [rgI, upF, atF, h2]
      rw [eu]
      repeat' ac_rfl
    rintro _ rfl
    have oku : OkRow ls.sum (upF G) := upF_row okg hs60
    refine vb_cut (fun Γ => Γ = [some (.d (.scr ns)), some (.o (.l (hD cs p q' r u))), some (.d (.int (i : Nat))), some (.d (.int ls.sum)), some (.d (tI row)), some (.d (tI (upF G))), x6, x7, x8, x9, some (.d (tI ls)), some (.d (tI os)), some (.d (lay CL ls os)), some (.d (.lst (G.map D.int))), none]) ?_ ?_
    · repeat' ac_rfl
      refine ⟨ls, os, row, rfl, okl, ok, okr, ?_⟩
      rw [hG]
      repeat' ac_rfl
      refine ⟨G, row, ls.sum, rfl, okg, okr, hs60, ?_⟩
      refine rq_same (x := bndF G row) rfl rfl rfl ?_
      repeat' ac_rfl
      refine ⟨ls, os, rfl, okl, ok, ?_⟩
      rw [hG]
      repeat' ac_rfl
      all_goals try (exfalso; rename_i hh; exact absurd rfl hh)
    rintro _ rfl
    refine vb_cut (fun Γ => Γ = [some (.d (.scr ns)), some (.o (.l (hD cs p q' r u))), some (.d (.int (i : Nat))), some (.d (.int ls.sum)), some (.d (tI row)), some (.d (tI (upF G))), some (.d (bndF G (upF G))), x7, x8, x9, some (.d (tI ls)), some (.d (tI os)), some (.d (lay CL ls os)), some (.d (.lst (G.map D.int))), none]) ?_ ?_
    · repeat' ac_rfl
      refine ⟨ls, os, upF G, rfl, okl, ok, oku, ?_⟩
      rw [hG]
      repeat' ac_rfl
      all_goals try rfl
    rintro _ rfl
    have hout := out_up okg (by omega) G.length (by omega)
    refine vb_cut (fun Γ => Γ = [some (.d (.scr ns)), some (.o (.l (hD cs p q' r u))), some (.d (.int (i : Nat))), some (.d (.int ls.sum)), some (.d (tI row)), some (.d (tI (upF G))), some (.d (bndF G (upF G))), x7, x8, x9, some (.d (tI ls)), some (.d (tI os)), some (.d (lay CL ls os)), some (.d (.lst (G.map D.int))), none]) ?_ ?_
    · repeat' ac_rfl
      refine ⟨G, upF G, ls.sum, rfl, okg, oku, hs60, ?_⟩
      refine rq_same (x := bndF G (upF G)) rfl rfl rfl ?_
      repeat' ac_rfl
      all_goals try (exfalso; rename_i hh; omega)
      all_goals try rfl
    rintro _ rfl
    refine vb_cut (fun Γ => ∃ (nn : D) (cs : List Int) (p q r u : Int), NoIns K CL nn ∧ 0 ≤ p ∧ Γ = [some (.d (.scr ns)), some (.o (.l (hD cs p q r u))), some (.d (.int (i : Nat))), some (.d (.int ls.sum)), some (.d (tI row)), some (.d (tI (upF G))), some (.d (bndF G (upF G))), some (.d nn), x8, x9, some (.d (tI ls)), some (.d (tI os)), some (.d (lay CL ls os)), some (.d (.lst (G.map D.int))), none]) ?_ ?_
    · repeat' ac_rfl
      refine ⟨cs, p, q', r, u, [D.non, .tup [tI ls, tI os], .int 3], rfl, hp, by simp, by simp, fun nn cs p q r u hnn hp => ?_⟩
      repeat' ac_rfl
      refine ⟨nn, cs, p, q, r, u, ?_, hp, rfl⟩
      rcases List.mem_cons.mp hnn with rfl | hnn
      · exact kN
      rcases List.mem_cons.mp hnn with rfl | hnn
      · exact kT _
      rcases List.mem_cons.mp hnn with rfl | hnn
      · exact kI _
      · cases hnn
    rintro _ ⟨nn, cs, p, q', r, u, hnn, hp, rfl⟩
    have hrl := okr.len
    obtain ⟨r0, rt, rfl⟩ : ∃ r0 rt, row = r0 :: rt := by
      cases row with
      | nil => simp at hrl; omega
      | cons a b => exact ⟨a, b, rfl⟩
    have hrt : (rt.length : Int) + 1 = ls.sum := by simp at hrl; omega
    obtain ⟨OL, hOL⟩ : ∃ OL : List D, [D.non, .tup ((r0 :: rt).map D.int ++ [.int 0]), .tup (rt.map D.int), .lst ((r0 :: rt).map D.int), .tup (.bl true :: rt.map D.int), .tup (.int (10 ^ 9) :: rt.map D.int), .tup (.str "0" :: rt.map D.int)] = OL := ⟨_, rfl⟩
    have hOb : ∀ x ∈ OL, BadRow ls.sum x := by
      subst hOL
      intro x hx
      have sm : ∀ y ∈ rt, -1000000000 < y ∧ y < 1000000000 := fun y hy => okr.small y (List.mem_cons_of_mem _ hy)
      rcases List.mem_cons.mp hx with rfl | hx
      · exact .inl ⟨_, rfl, rfl⟩
      rcases List.mem_cons.mp hx with rfl | hx
      · exact .inr (.inl ⟨_, rfl, by simp; omega⟩)
      rcases List.mem_cons.mp hx with rfl | hx
      · exact .inr (.inl ⟨_, rfl, by simp; omega⟩)
      rcases List.mem_cons.mp hx with rfl | hx
      · exact .inl ⟨_, rfl, rfl⟩
      rcases List.mem_cons.mp hx with rfl | hx
      · exact .inr (.inr ⟨_, rt, rfl, hrt, .inl rfl, sm⟩)
      rcases List.mem_cons.mp hx with rfl | hx
      · exact .inr (.inr ⟨_, rt, rfl, hrt, .inr ⟨_, rfl, by decide⟩, sm⟩)
      rcases List.mem_cons.mp hx with rfl | hx
      · exact .inr (.inr ⟨_, rt, rfl, hrt, .inl rfl, sm⟩)
      · cases hx
    have hOl : OL ≠ [] ∧ OL.length ≤ 1000 := by subst hOL; exact ⟨by simp, by simp⟩
    refine vb_cut (fun Γ => Γ = [some (.d (.scr ns)), some (.o (.l (hD cs p q' r u))), some (.d (.int (i : Nat))), some (.d (.int ls.sum)), some (.d (tI (r0 :: rt))), some (.d (tI (upF G))), some (.d (bndF G (upF G))), some (.d nn), some (.o (.l OL)), x9, some (.d (tI ls)), some (.d (tI os)), some (.d (lay CL ls os)), some (.d (.lst (G.map D.int))), none]) ?_ ?_
    · repeat' ac_rfl
      refine RPlus.tup rfl rfl (by simp only [List.length_map, List.length_cons, List.length_nil, List.length_drop, sizeLine_eq]; omega) ?_
      repeat' ac_rfl
      refine ve_sl (i := some ((1 : Nat) : Int)) (j := none) ?_
      repeat' ac_rfl
      · exact .yes (ve_int ⟨rfl, rfl⟩)
      · exact .no
      refine .inr ⟨_, rfl, ?_⟩
      rw [cut_from]
      repeat' ac_rfl
      refine ve_sl (i := some ((1 : Nat) : Int)) (j := none) ?_
      repeat' ac_rfl
      · exact .yes (ve_int ⟨rfl, rfl⟩)
      · exact .no
      refine .inr ⟨_, rfl, ?_⟩
      rw [cut_from]
      repeat' ac_rfl
      refine RPlus.tup rfl rfl (by simp only [List.length_map, List.length_cons, List.length_nil, List.length_drop, sizeLine_eq]; omega) ?_
      repeat' ac_rfl
      refine ve_sl (i := some ((1 : Nat) : Int)) (j := none) ?_
      repeat' ac_rfl
      · exact .yes (ve_int ⟨rfl, rfl⟩)
      · exact .no
      refine .inr ⟨_, rfl, ?_⟩
      rw [cut_from]
      repeat' ac_rfl
      refine RPlus.tup rfl rfl (by simp only [List.length_map, List.length_cons, List.length_nil, List.length_drop, sizeLine_eq]; omega) ?_
      repeat' ac_rfl
      refine ve_sl (i := some ((1 : Nat) : Int)) (j := none) ?_
      repeat' ac_rfl
      · exact .yes (ve_int ⟨rfl, rfl⟩)
      · exact .no
      refine .inr ⟨_, rfl, ?_⟩
      rw [cut_from]
      repeat' ac_rfl
      refine RPlus.tup rfl rfl (by simp only [List.length_map, List.length_cons, List.length_nil, List.length_drop, sizeLine_eq]; omega) ?_
      repeat' ac_rfl
      refine ⟨[D.non, .tup ((r0 :: rt).map D.int ++ [.int 0]), .tup (rt.map D.int), .lst ((r0 :: rt).map D.int), .tup (.bl true :: rt.map D.int), .tup (.int (10 ^ 9) :: rt.map D.int), .tup (.str "0" :: rt.map D.int)], rfl, by simp, ?_⟩
      rw [hOL]
      rfl
    rintro _ rfl
    refine vb_frz 8 rfl rfl (vb_cut (fun Γ => ∃ (oo : D) (cs : List Int) (p q r u : Int), BadRow ls.sum oo ∧ 0 ≤ p ∧ Γ = [some (.d (.scr ns)), some (.o (.l (hD cs p q r u))), some (.d (.int (i : Nat))), some (.d (.int ls.sum)), some (.d (tI (r0 :: rt))), some (.d (tI (upF G))), some (.d (bndF G (upF G))), some (.d nn), some (.d oo), x9, some (.d (tI ls)), some (.d (tI os)), some (.d (lay CL ls os)), some (.d (.lst (G.map D.int))), none]) ?_ ?_)
    · repeat' ac_rfl
      refine ⟨cs, p, q', r, u, OL, rfl, hp, hOl.1, hOl.2, fun oo cs p q r u hoo hp => ?_⟩
      repeat' ac_rfl
      exact ⟨oo, cs, p, q, r, u, hOb _ hoo, hp, rfl⟩
    rintro _ ⟨oo, cs, p, q', r, u, hoo, hp, rfl⟩
    repeat' ac_rfl
    refine ve_lam hTB rfl (List.mem_singleton.mpr rfl) rfl (LamX.lamS_by (sc := defScope (topS 32)) (by decide +kernel)) ?_
    repeat' ac_rfl
    refine ve_lam hTB rfl (List.mem_singleton.mpr rfl) rfl (LamX.lamS_by (sc := defScope (topS 32)) (by decide +kernel)) ?_
    repeat' ac_rfl
    refine rapp_mk (i := 9) rfl (by simp) ?_
    repeat' ac_rfl
    refine ve_lam hTB rfl (List.mem_singleton.mpr rfl) rfl (LamX.lamS_by (sc := defScope (topS 32)) (by decide +kernel)) ?_
    repeat' ac_rfl
    refine rapp_mk (i := 9) rfl (by simp) ?_
    refine vb_frz 9 rfl rfl ?_
    refine vb_cons ?_
    repeat' ac_rfl
    refine ve_errs cE hr hgd rfl ?_
    repeat' ac_rfl
    refine ⟨[_, _, _], [0, 1, 0], rfl, by show 3 ≤ 1000; decide, rfl, ?_, ?_⟩
    · intro i c e hc he
      match i, hc, he with
      | 0, hc, he =>
        cases hc; cases he
        refine ⟨rfl, rfl, (LamX.lamS_by (sc := defScope (topS 32)) (by dsimp only; decide +kernel)), fun _ _ _ _ _ => rfl, fun A outer s H E f c' hr hgd => ?_⟩
        refine vex_c ⟨rfl, fun _ _ z => z⟩ x1 hr hgd rfl rfl ?_
        repeat' ac_rfl
        exact .inl ⟨nn, oo, rfl, hnn, 0, EL, rfl, rfl, rfl⟩
      | 1, hc, he =>
        cases hc; cases he
        refine ⟨rfl, rfl, (LamX.lamS_by (sc := defScope (topS 32)) (by dsimp only; decide +kernel)), fun _ _ _ _ _ => rfl, fun A outer s H E f c' hr hgd => ?_⟩
        refine vex_c ⟨rfl, fun _ _ z => z⟩ x1 hr hgd rfl rfl ?_
        repeat' ac_rfl
        exact .inr ⟨ls, os, oo, rfl, okl, hoo, 1, ER, rfl, rfl, rfl⟩
      | 2, hc, he =>
        cases hc; cases he
        refine ⟨rfl, rfl, (LamX.lamS_by (sc := defScope (topS 32)) (by dsimp only; decide +kernel)), fun _ _ _ _ _ => rfl, fun A outer s H E f c' hr hgd => ?_⟩
        refine vex_c ⟨rfl, fun _ _ z => z⟩ xs hr hgd rfl rfl ?_
        repeat' ac_rfl
        exact ⟨nn, rfl, hnn, 0, EL, rfl, rfl, rfl⟩
      | i + 3, hc, he => simp at hc
    repeat' ac_rfl
    refine rq_lst (ns := [0, 1, 0]) (ms := [0, 1, 0]) rfl rfl ?_
    repeat' ac_rfl
    all_goals try (exfalso; rename_i hh; exact absurd rfl hh)
    exact ⟨cs, p, q', r, u, _, _, _, _, _, _, _, _, _, _, _, _, _, hp, rfl⟩
  · rintro Γ' ⟨cs, p, q', r, u, x2, x3, x4, x5, x6, x7, x8, x9, x10, x11, x12, x13, x14, hp, rfl⟩
    repeat' ac_rfl
    exact q
end
end K80
set_option Elab.async false
set_option linter.all false
set_option maxRecDepth 100000
set_option maxHeartbeats 4000000
namespace LB
open PySem PySem.Spec PyProof.Rows L2 AV
/-! ## the law's end: what is asked of K, told as EC, Tk, IsK, NoIns -/
def excB (K : PySem.W.Frag) (x : Str) : Bool :=
  decide (PySem.W.findIn K (.ref (He.ga K x)) "__getattribute__" = some (some (.builtin "BaseException.__getattribute__"))) &&
  (decide (PySem.W.findIn K (.ref (He.ga K x)) "__getattr__" = some none) && (PySem.W.hasDictIn K (He.ga K x) &&
  (decide (PySem.W.findIn K (.ref (He.ga K x)) "__class__" = some (some (.builtin "object.__class__"))) &&
  (decide (PySem.W.specialIn K (.builtin "object.__class__") "__get__" = some (some (.builtin "getset_descriptor.__get__"))) &&
  (decide (PySem.W.takesIn K (.builtin "object.__class__") = some true) && decide (PySem.W.mroIn K (He.ga K x) (.type "object") = some true))))))
theorem excB_ok {K : PySem.W.Frag} {h : Heap} {mg : Str → Option Value} {x : Str} (X : K.In h) (G : h.Ns mainGlobals mg) (b : excB K x = true) (g : (He.Fa.glo x).ok K = true) (c : (He.Fa.exc x).ok K = true) : EC K mg x (He.ga K x) := by
  unfold excB at b
  simp only [Bool.and_eq_true, decide_eq_true_eq] at b
  obtain ⟨b1, b2, b3, b4, b5, b6, b7⟩ := b
  obtain ⟨c1, c2, c3, c4⟩ := He.exc_ok c
  exact ⟨⟨⟨_, _, _, _, PySem.F.excBase_ValueError, c1⟩, c2, c3, c4⟩, He.glo_ok X G g, ⟨b1, b2, c3, b3, b4, b5, b6, b7⟩⟩
def isB (K : PySem.W.Frag) (x y : Str) (b : Bool) : Bool := decide (PySem.W.kitOne K (.ref (He.ga K x)) (.ref (He.ga K y)) = some b)
theorem isB_ok {K : PySem.W.Frag} {x y : Str} {b : Bool} (h : isB K x y b = true) : IsK K (He.ga K x) (He.ga K y) b := by
  show PySem.W.kitOne K (.ref (He.ga K x)) (.ref (He.ga K y)) = some b
  exact of_decide_eq_true h
def noiB (K : PySem.W.Frag) (n : String) (y : Str) : Bool := decide (PySem.W.kitOne K (.type n) (.ref (He.ga K y)) = some false)
theorem noiB_ok {K : PySem.W.Frag} {n : String} {y : Str} {x : D} (hx : x.tyN = some n) (h : noiB K n y = true) : NoIns K (He.ga K y) x := by
  unfold noiB at h
  exact ⟨n, hx, of_decide_eq_true h⟩
end LB
set_option Elab.async false
set_option linter.all false
set_option maxRecDepth 100000
set_option maxHeartbeats 0
namespace K80
open PySem PySem.Spec PyProof.Rows L2 AV LB
def fnL0 : List He.DefD := [dfF "is_integer" (topS 8), dfF "is_within" (topS 9), dfF "are_lengths" (topS 10), dfF "is_order" (topS 11), dfF "starts_of" (topS 12), dfF "goals_of" (topS 13), dfF "check_laying" (topS 15), dfF "check_row" (topS 18), dfF "row_bounds" (topS 20), dfF "shift_row" (topS 21), dfF "_law_hand" (topS 23), dfF "_law_draw" (topS 24), dfF "_law_some" (topS 25), dfF "_law_errors" (topS 26), dfF "_law_goal" (topS 27), dfF "_law_order" (topS 28), dfF "_law_parts" (topS 29), dfF "_law_row" (topS 30), dfF "_law_bounds" (topS 31), dfF "law" (topS 32), dfM "Laying" "__init__" "Laying.__init__" (inClass (topS 14) 0)]
def fnL : List He.DefD := fnL0
def faL0 : List He.Fa := [.free "len", .free "int", .free "abs", .free "sum", .free "tuple", .free "list", .free "repr", .free "range", .free "isinstance", .free "all", .free "max", .free "min", .free "enumerate", .free "bool", .free "any", .free "sorted", .free "zip", .free "set", .free "str", .cls "Laying", .noat "Laying" "lengths", .noat "Laying" "order", .noat "Laying" "many", .noat "Laying" "size", .noat "Laying" "goal", .int "MOST_PIECES" 6, .int "MOST_SIZE" 60, .glo "is_integer", .glo "is_within", .glo "are_lengths"]
def faL1 : List He.Fa := [.glo "is_order", .glo "starts_of", .glo "goals_of", .glo "Laying", .mkr "Laying", .glo "_law_hand", .glo "_law_draw", .glo "_law_some", .glo "_law_order", .glo "_law_parts", .glo "_law_goal", .glo "_law_row", .int "MOST_IN_ROW" 1000000000, .glo "check_laying", .glo "check_row", .glo "row_bounds", .glo "_law_bounds", .glo "shift_row", .glo "NoLaying", .exc "NoLaying", .glo "NoRow", .exc "NoRow", .glo "StripError", .exm "NoLaying" "StripError" true, .exm "NoRow" "StripError" true, .glo "_law_errors", .glo "law"]
def faL : List He.Fa := faL0 ++ faL1
def looseL0 : List PySem.Str := ["StripError", "BadLaying", "NoLaying", "NoRow", "MOST_PIECES", "MOST_SIZE", "is_integer", "is_within", "are_lengths", "is_order", "starts_of", "goals_of", "Laying", "check_laying", "MOST_IN_ROW", "check_row", "row_bounds", "shift_row", "_law_hand", "_law_draw", "_law_some", "_law_errors", "_law_goal", "_law_order", "_law_parts", "_law_row", "_law_bounds"]
def looseL : List PySem.Str := looseL0
def exL (K : PySem.W.Frag) : Bool := insB K "Laying" && (excB K "NoLaying" && (excB K "NoRow" && (isB K "NoLaying" "NoLaying" true && (isB K "NoLaying" "NoRow" false && (isB K "NoRow" "NoLaying" false && (isB K "NoRow" "NoRow" true && (noiB K "NoneType" "Laying" && (noiB K "tuple" "Laying" && (noiB K "int" "Laying")))))))))
abbrev RL : PySem.W.OpenRow := PySem.W.OpenLaw.row PySem.Challenge.rw_stripturns_k80_whole_bounds_of_sums_alon
def tfL : List He.Defn := [("law", none)]
abbrev hkL : PySem.W.Hook := He.hookX 6 faL fnL [] tfL exL
def obL (s : PySem.W.SharedT) : He.AlX := He.obsX 6 faL fnL [] tfL exL (HandSHeadRun.getT s)
theorem obL_eq (s : PySem.W.SharedT) : obL s = hkL.obs s.abs := He.obsX_eq (HandSHeadRun.getT_eq s)
theorem runL (w : World) : HandSHeadRun.RunEq RL (PySem.W.view RL.prog [32]) hkL obL 20000 looseL w := by
  intro os
  kernel_rfl
theorem lawL {P : Program} {w : World} {K : PySem.W.Frag} {h base : Heap} {mg : Str → Option Value} {PT : Addr} (X : K.In h) (G : h.Ns mainGlobals mg) (c : He.SaysD faL fnL K) (m : exL K = true) (hTB : LamX.TabB base mg (He.codeOf K ("law", none)) PT) : CalT P w K mg base [(PT, "law.<locals>.<lambda>")] 7 "law" 1 spLaw := by
  unfold exL at m
  simp only [Bool.and_eq_true] at m
  obtain ⟨X0, X1, X2, X3, X4, X5, X6, X7, X8, X9⟩ := m
  have gb : BI mg := ⟨He.free_ok X G (c.fact 0 (f := .free "len") rfl), He.free_ok X G (c.fact 1 (f := .free "int") rfl), He.free_ok X G (c.fact 2 (f := .free "abs") rfl), He.free_ok X G (c.fact 3 (f := .free "sum") rfl), He.free_ok X G (c.fact 4 (f := .free "tuple") rfl), He.free_ok X G (c.fact 5 (f := .free "list") rfl), He.free_ok X G (c.fact 6 (f := .free "repr") rfl), He.free_ok X G (c.fact 7 (f := .free "range") rfl), He.free_ok X G (c.fact 8 (f := .free "isinstance") rfl), He.free_ok X G (c.fact 9 (f := .free "all") rfl), He.free_ok X G (c.fact 10 (f := .free "max") rfl), He.free_ok X G (c.fact 11 (f := .free "min") rfl), He.free_ok X G (c.fact 12 (f := .free "enumerate") rfl), He.free_ok X G (c.fact 13 (f := .free "bool") rfl), He.free_ok X G (c.fact 14 (f := .free "any") rfl), He.free_ok X G (c.fact 15 (f := .free "sorted") rfl), He.free_ok X G (c.fact 16 (f := .free "zip") rfl), He.free_ok X G (c.fact 17 (f := .free "set") rfl), He.free_ok X G (c.fact 18 (f := .free "str") rfl)⟩
  have i_Laying := insB_ok X0 (He.cls_ok (c.fact 19 (f := .cls "Laying") rfl))
  have L_Laying : LC K (He.ga K "Laying") := ⟨i_Laying, He.noat_ok (c.fact 20 (f := .noat "Laying" "lengths") rfl), He.noat_ok (c.fact 21 (f := .noat "Laying" "order") rfl), He.noat_ok (c.fact 22 (f := .noat "Laying" "many") rfl), He.noat_ok (c.fact 23 (f := .noat "Laying" "size") rfl), He.noat_ok (c.fact 24 (f := .noat "Laying" "goal") rfl)⟩
  obtain ⟨dm_Laying, H_Laying⟩ := met_of c 20 (C := "Laying") (m := "__init__") (q := "Laying.__init__") (st := inClass (topS 14) 0) rfl
  have k_Laying := H_Laying.binds (ps := ["self", "lengths", "order"]) fun _ _ _ _ _ _ us hl => match us, hl with | [_, _, _], _ => rfl
  have ci_MOST_PIECES : CI mg "MOST_PIECES" 6 := He.int_ok X G (c.fact 25 (f := .int "MOST_PIECES" 6) rfl)
  have ci_MOST_SIZE : CI mg "MOST_SIZE" 60 := He.int_ok X G (c.fact 26 (f := .int "MOST_SIZE" 60) rfl)
  obtain ⟨d_8, F_8⟩ := def_of c 0 (x := "is_integer") (st := topS 8) rfl
  have g_8 := He.glo_ok X G (c.fact 27 (f := .glo "is_integer") rfl)
  have b_8 := F_8.binds (ps := ["thing"]) fun _ _ _ _ _ _ us hl => match us, hl with | [_], _ => rfl
  have p_is_integer := ok_is_integer (P := P) (w := w) (base := base) gb F_8 g_8 b_8
  obtain ⟨d_9, F_9⟩ := def_of c 1 (x := "is_within") (st := topS 9) rfl
  have g_9 := He.glo_ok X G (c.fact 28 (f := .glo "is_within") rfl)
  have b_9 := F_9.binds (ps := ["thing", "low", "high"]) fun _ _ _ _ _ _ us hl => match us, hl with | [_, _, _], _ => rfl
  have p_is_within := ok_is_within (P := P) (w := w) (base := base) gb F_9 g_9 b_9 (p_is_integer.mono (by decide))
  obtain ⟨d_10, F_10⟩ := def_of c 2 (x := "are_lengths") (st := topS 10) rfl
  have g_10 := He.glo_ok X G (c.fact 29 (f := .glo "are_lengths") rfl)
  have b_10 := F_10.binds (ps := ["thing"]) fun _ _ _ _ _ _ us hl => match us, hl with | [_], _ => rfl
  have p_are_lengths := ok_are_lengths (P := P) (w := w) (base := base) gb F_10 g_10 b_10 ci_MOST_PIECES ci_MOST_SIZE (p_is_within.mono (by decide))
  obtain ⟨d_11, F_11⟩ := def_of c 3 (x := "is_order") (st := topS 11) rfl
  have g_11 := He.glo_ok X G (c.fact 30 (f := .glo "is_order") rfl)
  have b_11 := F_11.binds (ps := ["thing"]) fun _ _ _ _ _ _ us hl => match us, hl with | [_], _ => rfl
  have p_is_order := ok_is_order (P := P) (w := w) (base := base) gb F_11 g_11 b_11 ci_MOST_PIECES (p_is_within.mono (by decide))
  obtain ⟨d_12, F_12⟩ := def_of c 4 (x := "starts_of") (st := topS 12) rfl
  have g_12 := He.glo_ok X G (c.fact 31 (f := .glo "starts_of") rfl)
  have b_12 := F_12.binds (ps := ["lengths", "order"]) fun _ _ _ _ _ _ us hl => match us, hl with | [_, _], _ => rfl
  have p_starts_of := ok_starts_of (P := P) (w := w) (base := base) gb F_12 g_12 b_12
  obtain ⟨d_13, F_13⟩ := def_of c 5 (x := "goals_of") (st := topS 13) rfl
  have g_13 := He.glo_ok X G (c.fact 32 (f := .glo "goals_of") rfl)
  have b_13 := F_13.binds (ps := ["lengths", "order"]) fun _ _ _ _ _ _ us hl => match us, hl with | [_, _], _ => rfl
  have p_goals_of := ok_goals_of (P := P) (w := w) (base := base) gb F_13 g_13 b_13 (p_starts_of.mono (by decide))
  have g_Laying := He.glo_ok X G (c.fact 33 (f := .glo "Laying") rfl)
  have m_Laying := ok_Laying (P := P) (w := w) (base := base) gb (He.mkr_ok (c.fact 34 (f := .mkr "Laying") rfl)) H_Laying g_Laying k_Laying L_Laying (p_are_lengths.mono (by decide)) (p_is_order.mono (by decide)) (p_goals_of.mono (by decide))
  obtain ⟨d_23, F_23⟩ := def_of c 10 (x := "_law_hand") (st := topS 23) rfl
  have g_23 := He.glo_ok X G (c.fact 35 (f := .glo "_law_hand") rfl)
  have b_23 := F_23.binds (ps := ["script"]) fun _ _ _ _ _ _ us hl => match us, hl with | [_], _ => rfl
  have p__law_hand := ok__law_hand (P := P) (w := w) (base := base) gb F_23 g_23 b_23
  obtain ⟨d_24, F_24⟩ := def_of c 11 (x := "_law_draw") (st := topS 24) rfl
  have g_24 := He.glo_ok X G (c.fact 36 (f := .glo "_law_draw") rfl)
  have b_24 := F_24.binds (ps := ["hand", "many"]) fun _ _ _ _ _ _ us hl => match us, hl with | [_, _], _ => rfl
  have p__law_draw := ok__law_draw (P := P) (w := w) (base := base) gb F_24 g_24 b_24
  obtain ⟨d_25, F_25⟩ := def_of c 12 (x := "_law_some") (st := topS 25) rfl
  have g_25 := He.glo_ok X G (c.fact 37 (f := .glo "_law_some") rfl)
  have b_25 := F_25.binds (ps := ["hand", "things"]) fun _ _ _ _ _ _ us hl => match us, hl with | [_, _], _ => rfl
  have p__law_some := ok__law_some (P := P) (w := w) (base := base) gb F_25 g_25 b_25 (p__law_draw.mono (by decide))
  obtain ⟨d_28, F_28⟩ := def_of c 15 (x := "_law_order") (st := topS 28) rfl
  have g_28 := He.glo_ok X G (c.fact 38 (f := .glo "_law_order") rfl)
  have b_28 := F_28.binds (ps := ["hand", "many"]) fun _ _ _ _ _ _ us hl => match us, hl with | [_, _], _ => rfl
  have p__law_order := ok__law_order (P := P) (w := w) (base := base) gb F_28 g_28 b_28 (p__law_draw.mono (by decide))
  obtain ⟨d_29, F_29⟩ := def_of c 16 (x := "_law_parts") (st := topS 29) rfl
  have g_29 := He.glo_ok X G (c.fact 39 (f := .glo "_law_parts") rfl)
  have b_29 := F_29.binds (ps := ["hand", "most", "pieces"]) fun _ _ _ _ _ _ us hl => match us, hl with | [_, _, _], _ => rfl
  have p__law_parts := ok__law_parts (P := P) (w := w) (base := base) gb F_29 g_29 b_29 (p__law_draw.mono (by decide)) (p__law_some.mono (by decide)) (p__law_order.mono (by decide))
  obtain ⟨d_27, F_27⟩ := def_of c 14 (x := "_law_goal") (st := topS 27) rfl
  have g_27 := He.glo_ok X G (c.fact 40 (f := .glo "_law_goal") rfl)
  have b_27 := F_27.binds (ps := ["lengths", "order"]) fun _ _ _ _ _ _ us hl => match us, hl with | [_, _], _ => rfl
  have p__law_goal := ok__law_goal (P := P) (w := w) (base := base) gb F_27 g_27 b_27
  obtain ⟨d_30, F_30⟩ := def_of c 17 (x := "_law_row") (st := topS 30) rfl
  have g_30 := He.glo_ok X G (c.fact 41 (f := .glo "_law_row") rfl)
  have b_30 := F_30.binds (ps := ["hand", "goal"]) fun _ _ _ _ _ _ us hl => match us, hl with | [_, _], _ => rfl
  have p__law_row := ok__law_row (P := P) (w := w) (base := base) gb F_30 g_30 b_30 (p__law_draw.mono (by decide))
  have ci_MOST_IN_ROW : CI mg "MOST_IN_ROW" 1000000000 := He.int_ok X G (c.fact 42 (f := .int "MOST_IN_ROW" 1000000000) rfl)
  obtain ⟨d_15, F_15⟩ := def_of c 6 (x := "check_laying") (st := topS 15) rfl
  have g_15 := He.glo_ok X G (c.fact 43 (f := .glo "check_laying") rfl)
  have b_15 := F_15.binds (ps := ["thing"]) fun _ _ _ _ _ _ us hl => match us, hl with | [_], _ => rfl
  have p_check_laying := ok_check_laying (P := P) (w := w) (base := base) gb F_15 g_15 b_15 L_Laying g_Laying
  obtain ⟨d_18, F_18⟩ := def_of c 7 (x := "check_row") (st := topS 18) rfl
  have g_18 := He.glo_ok X G (c.fact 44 (f := .glo "check_row") rfl)
  have b_18 := F_18.binds (ps := ["laying", "row"]) fun _ _ _ _ _ _ us hl => match us, hl with | [_, _], _ => rfl
  have p_check_row := ok_check_row (P := P) (w := w) (base := base) gb F_18 g_18 b_18 L_Laying ci_MOST_IN_ROW (p_check_laying.mono (by decide)) (p_is_integer.mono (by decide))
  obtain ⟨d_20, F_20⟩ := def_of c 8 (x := "row_bounds") (st := topS 20) rfl
  have g_20 := He.glo_ok X G (c.fact 45 (f := .glo "row_bounds") rfl)
  have b_20 := F_20.binds (ps := ["laying", "row"]) fun _ _ _ _ _ _ us hl => match us, hl with | [_, _], _ => rfl
  have p_row_bounds := ok_row_bounds (P := P) (w := w) (base := base) gb F_20 g_20 b_20 L_Laying (p_check_row.mono (by decide))
  obtain ⟨d_31, F_31⟩ := def_of c 18 (x := "_law_bounds") (st := topS 31) rfl
  have g_31 := He.glo_ok X G (c.fact 46 (f := .glo "_law_bounds") rfl)
  have b_31 := F_31.binds (ps := ["goal", "row"]) fun _ _ _ _ _ _ us hl => match us, hl with | [_, _], _ => rfl
  have p__law_bounds := ok__law_bounds (P := P) (w := w) (base := base) gb F_31 g_31 b_31
  obtain ⟨d_21, F_21⟩ := def_of c 9 (x := "shift_row") (st := topS 21) rfl
  have g_21 := He.glo_ok X G (c.fact 47 (f := .glo "shift_row") rfl)
  have b_21 := F_21.binds (ps := ["laying"]) fun _ _ _ _ _ _ us hl => match us, hl with | [_], _ => rfl
  have p_shift_row := ok_shift_row (P := P) (w := w) (base := base) gb F_21 g_21 b_21 L_Laying (p_check_laying.mono (by decide))
  have ec_NoLaying : EC K mg "NoLaying" (He.ga K "NoLaying") := excB_ok X G X1 (c.fact 48 (f := .glo "NoLaying") rfl) (c.fact 49 (f := .exc "NoLaying") rfl)
  have ec_NoRow : EC K mg "NoRow" (He.ga K "NoRow") := excB_ok X G X2 (c.fact 50 (f := .glo "NoRow") rfl) (c.fact 51 (f := .exc "NoRow") rfl)
  have g_StripError := He.glo_ok X G (c.fact 52 (f := .glo "StripError") rfl)
  have tk_NoLaying_StripError : Tk K (He.ga K "NoLaying") (He.ga K "StripError") := He.exm_ok (c.fact 53 (f := .exm "NoLaying" "StripError" true) rfl)
  have tk_NoRow_StripError : Tk K (He.ga K "NoRow") (He.ga K "StripError") := He.exm_ok (c.fact 54 (f := .exm "NoRow" "StripError" true) rfl)
  have is_NoLaying_NoLaying : IsK K (He.ga K "NoLaying") (He.ga K "NoLaying") true := isB_ok X3
  have is_NoLaying_NoRow : IsK K (He.ga K "NoLaying") (He.ga K "NoRow") false := isB_ok X4
  have is_NoRow_NoLaying : IsK K (He.ga K "NoRow") (He.ga K "NoLaying") false := isB_ok X5
  have is_NoRow_NoRow : IsK K (He.ga K "NoRow") (He.ga K "NoRow") true := isB_ok X6
  obtain ⟨d_26, F_26⟩ := def_of c 13 (x := "_law_errors") (st := topS 26) rfl
  have g_26 := He.glo_ok X G (c.fact 55 (f := .glo "_law_errors") rfl)
  have b_26 := F_26.binds (ps := ["calls"]) fun _ _ _ _ _ _ us hl => match us, hl with | [_], _ => rfl
  have e__law_errors := ok__law_errors (P := P) (w := w) (base := base) gb F_26 g_26 b_26 ec_NoLaying ec_NoRow g_StripError tk_NoLaying_StripError tk_NoRow_StripError is_NoLaying_NoLaying is_NoLaying_NoRow is_NoRow_NoLaying is_NoRow_NoRow
  have x_check_laying := okx_check_laying (P := P) (w := w) (base := base) gb F_15 g_15 b_15 g_Laying ec_NoLaying
  have x_check_row := okx_check_row (P := P) (w := w) (base := base) gb F_18 g_18 b_18 L_Laying ci_MOST_IN_ROW ec_NoRow (p_check_laying.mono (by decide)) (x_check_laying.mono (by decide)) (p_is_integer.mono (by decide))
  have x_row_bounds := okx_row_bounds (P := P) (w := w) (base := base) gb F_20 g_20 b_20 (x_check_row.mono (by decide))
  have x_shift_row := okx_shift_row (P := P) (w := w) (base := base) gb F_21 g_21 b_21 (x_check_laying.mono (by decide))
  obtain ⟨d_32, F_32⟩ := def_of c 19 (x := "law") (st := topS 32) rfl
  have g_32 := He.glo_ok X G (c.fact 56 (f := .glo "law") rfl)
  have b_32 := F_32.binds (ps := ["script"]) fun _ _ _ _ _ _ us hl => match us, hl with | [_], _ => rfl
  exact ok_law (P := P) (w := w) (base := base) gb F_32 g_32 b_32 hTB L_Laying (m_Laying.mono (by decide)) (p__law_hand.mono (by decide)) (p__law_parts.mono (by decide)) (p__law_goal.mono (by decide)) (p__law_row.mono (by decide)) (p_row_bounds.mono (by decide)) (p__law_bounds.mono (by decide)) (p_shift_row.mono (by decide)) (p__law_some.mono (by decide)) e__law_errors (x_row_bounds.mono (by decide)) (x_shift_row.mono (by decide)) (noiB_ok rfl X7) (fun _ => noiB_ok rfl X8) (fun _ => noiB_ok rfl X9)
end K80
open PySem PySem.W PySem.Calls PyProof.Rows
theorem PySem.Challenge.cw_stripturns_k80_whole_bounds_of_sums_alon_holds : PySem.Challenge.rw_stripturns_k80_whole_bounds_of_sums_alon.Holds := by
  w_on; o_law
  refine HandSHeadRun.head_any (r := OpenLaw.row PySem.Challenge.rw_stripturns_k80_whole_bounds_of_sums_alon) (q := view (OpenLaw.row PySem.Challenge.rw_stripturns_k80_whole_bounds_of_sums_alon).prog [32]) (H := K80.hkL) (ob := K80.obL) (M := 20000) (loose := K80.looseL) (d := HandSHeadRun.topDef (OpenLaw.row PySem.Challenge.rw_stripturns_k80_whole_bounds_of_sums_alon).prog 32) (kwd := []) K80.obL_eq
    (by kernel_rfl) (fun s => by kernel_rfl) K80.runL (by kernel_rfl) (by kernel_rfl) (by kernel_rfl) (by rfl) (by first | assumption | decide +kernel) (by decide +kernel) ⟨rfl, rfl, rfl, rfl, rfl, by decide +kernel⟩ ?hw ?hc
  case hw => w_witness2
  case hc =>
    refine AV.walk_ofET (l := PySem.Challenge.rw_stripturns_k80_whole_bounds_of_sums_alon) (n := 63) (k := 7) rfl (by decide) (by kernel_rfl) ⟨rfl, by decide, by decide⟩ ?F
    intro w mg h Y G
    obtain ⟨K, KX, c⟩ := Y
    have hm : (("law", none) : He.Defn) ∈ K80.tfL := List.mem_singleton.mpr rfl
    refine ⟨K, [He.cT K ("law", none)], [((He.cT K ("law", none)).2, "law.<locals>.<lambda>")], KX, ?_, ?_, ?_, ?_, ?_, fun base _ _ hT => ?_⟩
    · intro p hp; rw [List.mem_singleton.mp hp]; exact c.empty _ hm
    · intro p hp; rw [List.mem_singleton.mp hp]; exact c.out _ hm
    · intro p hp; rw [List.mem_singleton.mp hp]; exact PySem.W.codeHd_of_K KX (c.hd _ hm)
    · intro p hp; rw [List.mem_singleton.mp hp]; exact List.mem_singleton.mpr rfl
    · intro p hp; rw [List.mem_singleton.mp hp]; simp [List.lookup_cons]
    have e : (HandSHeadRun.topDef (OpenLaw.row PySem.Challenge.rw_stripturns_k80_whole_bounds_of_sums_alon).prog 32).name = ("law" : PySem.Str) := by kernel_rfl
    rw [e]
    exact K80.lawL KX G c.t.d c.more (hT _ (List.mem_singleton.mpr rfl))
#print axioms PySem.Challenge.cw_stripturns_k80_whole_bounds_of_sums_alon_holds
