import PyProof.Rows.All
import Wide.All
import OpenK.AllK
import Wide.FinOn
import HandS.ForMost
import HandS.ForExc
import HandS.StrMore
import HandS.Flow
import HandS.Wide
import HandS.Deep
import HandS.TryOnly
import HandS.Text
import PyProof.StrOps2
import HandS.TryMany
import HandS.ExcInit
import HandS.ExcField
import HandS.ExcOwn
import HandS.IsInst
import HandS.Iter
import HandS.Zip
import PyProof.ReprLen
import PyProof.StrLawsRepr
import PyProof.Rows.RegStrFacts
import HandS.ExcIs
import KE.GoesMore
import HandS.Dict
import HandS.DictTup
import HandS.Small
import HandS.Conv
import HandS.Call
import HandS.Strs
import HandS.TupAny
import PyProof.StrLawsIn
import HandS.SetFor
import HandS.More
import HandS.HeadHook3
import HandS.FStr
import HandS.Codes
import KE.IntTextText
import HandS.Replace
import HandS.ReplaceList
import HandS.List
import HandS.Style
import PyProof.Rows.SortStr
import KE.KDictItemsList
import HandS.DictComp
import PyProof.Rows.SortRev
import PyProof.Rows.SortShellAny
import HandS.SortKw
import KE.KDictZip
import KE.KItemsList
import HandS.RevTup
import HandS.TupLe
import PySem.Challenge.RW_pagesatonce_k61_mirrors_show_complete_ve
set_option Elab.async false
set_option linter.all false
set_option maxRecDepth 100000
set_option maxHeartbeats 4000000
namespace Dl
open PySem PySem.Spec PyProof.Rows L2

/-- values as trees: what never changes any more is written out, what may change stands by its address -/
inductive D where
  | non | bl (b : Bool) | int (i : Int) | str (x : Str) | ref (a : Addr) | scr (ns : List Int)
  | tup (ds : List D) | lst (ds : List D) | dct (kvs : List (Key × D)) | ins (C : Addr) (ns : List Str) (ds : List D)
  | exc (a d : Addr) (ns : List Str) (ds : List D)
  deriving Inhabited
def keyD : Key → D
  | .inl i => .int i
  | .inr x => .str x
/-- what may change -/
inductive M where
  | lst (ds : List D) | dK (kvs : List (Key × D)) | dT (P : Program) (w : World) (a : Addr) (kvs : List (List Key × D)) | ins (C : Addr) (ns : List Str) (ds : List D)
abbrev Cell := Addr × M
abbrev Pt := List (List Cell)
abbrev Sd := List (Option D)
def dm (G : List Cell) : List Addr := G.map (·.1)
def tot (Gs : Pt) (F : List Cell) : List Cell := Gs.flatten ++ F

mutual
def RD (K : PySem.W.Frag) (N : List Addr) (H : Hp) : D → V → Prop
  | .non, v => v = .non
  | .bl b, v => v = .bl b
  | .int i, v => v = .int i
  | .str x, v => v = .str x
  | .ref a, v => v = .ref a
  | .scr ns, v => ∃ a, v = .ref a ∧ ((a ∉ N ∧ Rd H a (.lst (ns.map V.int))) ∨ (∃ (o : Obj) (its : Array Value) (n : Nat), K.lookup a = some o ∧ o.cls = .type "list" ∧ o.dict = none ∧ o.data = .seq its n ∧ its.size ≤ sizeLine ∧ Vals (ns.map V.int) its.toList))
  | .tup ds, v => ∃ a vs, v = .ref a ∧ ((a ∉ N ∧ Rd H a (.tup vs)) ∨ (∃ (o : Obj) (its : Array Value) (n : Nat), K.lookup a = some o ∧ o.cls = .type "tuple" ∧ o.data = .seq its n ∧ its.size ≤ sizeLine ∧ Vals vs its.toList)) ∧ RDs K N H ds vs
  | .lst ds, v => ∃ a vs, v = .ref a ∧ a ∉ N ∧ H a = some (.lst vs) ∧ RDs K N H ds vs
  | .dct kvs, v => ∃ a o kv, v = .ref a ∧ a ∉ N ∧ H a = some (.frz o (.dK kv)) ∧ RDk K N H kvs kv
  | .ins C ns ds, v => ∃ a dx vs, v = .ref a ∧ a ∉ N ∧ H a = some (.ins C dx (ns.zip vs)) ∧ ns.length = vs.length ∧ RDs K N H ds vs
  | .exc a d ns ds, v => v = .ref a ∧ ∃ vs, d ∉ N ∧ H d = some (.xd (ns.zip vs)) ∧ ns.length = vs.length ∧ RDs K N H ds vs
def RDs (K : PySem.W.Frag) (N : List Addr) (H : Hp) : List D → List V → Prop
  | [], vs => vs = []
  | d :: ds, vs => ∃ v r, vs = v :: r ∧ RD K N H d v ∧ RDs K N H ds r
def RDk (K : PySem.W.Frag) (N : List Addr) (H : Hp) : List (Key × D) → List (Key × V) → Prop
  | [], kv => kv = []
  | (k, d) :: r, kv => ∃ v r', kv = (k, v) :: r' ∧ RD K N H d v ∧ RDk K N H r r'
end
/-- the pairs of a dict -/
def KD {κ : Type} (K : PySem.W.Frag) (N : List Addr) (H : Hp) : List (κ × D) → List (κ × V) → Prop
  | [], kv => kv = []
  | (k, d) :: r, kv => ∃ v r', kv = (k, v) :: r' ∧ RD K N H d v ∧ KD K N H r r'
theorem rdk_kd {K : PySem.W.Frag} {N : List Addr} {H : Hp} : ∀ {l : List (Key × D)} {m : List (Key × V)}, RDk K N H l m ↔ KD K N H l m
  | [], _ => Iff.rfl
  | (k, d) :: r, m => by
    constructor
    · intro h
      obtain ⟨v, r', e, h1, h2⟩ := h
      exact ⟨v, r', e, h1, rdk_kd.mp h2⟩
    · intro h
      obtain ⟨v, r', e, h1, h2⟩ := h
      exact ⟨v, r', e, h1, rdk_kd.mpr h2⟩

def Keep (N : List Addr) (H : Hp) (N' : List Addr) (H' : Hp) : Prop := ∀ b o, H b = some o → b ∉ N → H' b = some o ∧ b ∉ N'
theorem Keep.refl {N : List Addr} {H : Hp} : Keep N H N H := fun _ _ h n => ⟨h, n⟩
theorem Keep.trans {N N1 N2 : List Addr} {H H1 H2 : Hp} (a : Keep N H N1 H1) (b : Keep N1 H1 N2 H2) : Keep N H N2 H2 := fun x o h n =>
  let ⟨h1, n1⟩ := a x o h n
  b x o h1 n1
section
variable {K : PySem.W.Frag} {N N' : List Addr} {H H' : Hp}
theorem Keep.rd (k : Keep N H N' H') {a : Addr} {u : HO} (n : a ∉ N) (h : Rd H a u) : a ∉ N' ∧ Rd H' a u := by
  rcases h with h | ⟨o, h⟩
  · exact ⟨(k a _ h n).2, .inl (k a _ h n).1⟩
  · exact ⟨(k a _ h n).2, .inr ⟨o, (k a _ h n).1⟩⟩
mutual
theorem RD.keep (k : Keep N H N' H') : ∀ (d : D) (v : V), RD K N H d v → RD K N' H' d v
  | .non, _, h => h
  | .bl _, _, h => h
  | .int _, _, h => h
  | .str _, _, h => h
  | .ref _, _, h => h
  | .scr _, _, h => by
    obtain ⟨a, e, t⟩ := h
    refine ⟨a, e, ?_⟩
    rcases t with ⟨n, t⟩ | t
    · exact .inl (k.rd n t)
    · exact .inr t
  | .tup ds, _, h => by
    obtain ⟨a, vs, e, t, r⟩ := h
    refine ⟨a, vs, e, ?_, RDs.keep k ds vs r⟩
    rcases t with ⟨n, t⟩ | t
    · exact .inl (k.rd n t)
    · exact .inr t
  | .lst ds, _, h => by
    obtain ⟨a, vs, e, n, t, r⟩ := h
    exact ⟨a, vs, e, (k a _ t n).2, (k a _ t n).1, RDs.keep k ds vs r⟩
  | .dct kvs, _, h => by
    obtain ⟨a, o, vs, e, n, t, r⟩ := h
    exact ⟨a, o, vs, e, (k a _ t n).2, (k a _ t n).1, RDk.keep k kvs vs r⟩
  | .ins C ns ds, _, h => by
    obtain ⟨a, dx, vs, e, n, t, l, r⟩ := h
    exact ⟨a, dx, vs, e, (k a _ t n).2, (k a _ t n).1, l, RDs.keep k ds vs r⟩
  | .exc a d ns ds, _, h => by
    obtain ⟨e, vs, n, t, l, r⟩ := h
    exact ⟨e, vs, (k d _ t n).2, (k d _ t n).1, l, RDs.keep k ds vs r⟩
theorem RDs.keep (k : Keep N H N' H') : ∀ (ds : List D) (vs : List V), RDs K N H ds vs → RDs K N' H' ds vs
  | [], _, h => h
  | d :: ds, _, h => by
    obtain ⟨v, r, e, h1, h2⟩ := h
    exact ⟨v, r, e, RD.keep k d v h1, RDs.keep k ds r h2⟩
theorem RDk.keep (k : Keep N H N' H') : ∀ (ds : List (Key × D)) (vs : List (Key × V)), RDk K N H ds vs → RDk K N' H' ds vs
  | [], _, h => h
  | (_, d) :: ds, _, h => by
    obtain ⟨v, r, e, h1, h2⟩ := h
    exact ⟨v, r, e, RD.keep k d v h1, RDk.keep k ds r h2⟩
end
theorem KD.keep {κ : Type} (k : Keep N H N' H') : ∀ (ds : List (κ × D)) (vs : List (κ × V)), KD K N H ds vs → KD K N' H' ds vs
  | [], _, h => h
  | (_, d) :: ds, _, h => by
    obtain ⟨v, r, e, h1, h2⟩ := h
    exact ⟨v, r, e, RD.keep k d v h1, KD.keep k ds r h2⟩
theorem RDs.length : ∀ {ds : List D} {vs : List V}, RDs K N H ds vs → vs.length = ds.length
  | [], _, h => by cases (show _ = [] from h); rfl
  | d :: ds, _, h => by
    obtain ⟨v, r, rfl, _, h2⟩ := h
    show r.length + 1 = ds.length + 1
    rw [RDs.length h2]
theorem RDs.get : ∀ {ds : List D} {vs : List V} {i : Nat} {d : D}, RDs K N H ds vs → ds[i]? = some d → ∃ v, vs[i]? = some v ∧ RD K N H d v
  | [], _, _, _, _, e => by simp at e
  | d :: ds, _, 0, _, h, e => by
    obtain ⟨v, r, rfl, h1, _⟩ := h
    cases e
    exact ⟨v, rfl, h1⟩
  | d :: ds, _, i + 1, x, h, e => by
    obtain ⟨v, r, rfl, _, h2⟩ := h
    obtain ⟨w, e2, r2⟩ := RDs.get (i := i) h2 (by simpa using e)
    exact ⟨w, by simpa using e2, r2⟩
theorem RDs.append : ∀ {ds es : List D} {vs ws : List V}, RDs K N H ds vs → RDs K N H es ws → RDs K N H (ds ++ es) (vs ++ ws)
  | [], _, _, _, h, g => by
    rw [show _ = [] from h]
    exact g
  | d :: ds, _, _, _, h, g => by
    obtain ⟨v, r, rfl, h1, h2⟩ := h
    exact ⟨v, _, rfl, h1, RDs.append h2 g⟩
theorem RDs.one {d : D} {v : V} (h : RD K N H d v) : RDs K N H [d] [v] := ⟨v, [], rfl, h, rfl⟩
theorem RDs.drop : ∀ {ds : List D} {vs : List V} (n : Nat), RDs K N H ds vs → RDs K N H (ds.drop n) (vs.drop n)
  | _, _, 0, h => h
  | [], _, _ + 1, h => by
    rw [show _ = [] from h]
    rfl
  | d :: ds, _, n + 1, h => by
    obtain ⟨v, r, rfl, h1, h2⟩ := h
    exact RDs.drop n h2
theorem RDs.take : ∀ {ds : List D} {vs : List V} (n : Nat), RDs K N H ds vs → RDs K N H (ds.take n) (vs.take n)
  | _, _, 0, h => rfl
  | [], _, _ + 1, h => by
    rw [show _ = [] from h]
    rfl
  | d :: ds, _, n + 1, h => by
    obtain ⟨v, r, rfl, h1, h2⟩ := h
    exact ⟨v, _, rfl, h1, RDs.take n h2⟩
theorem RDs.set {x : D} {w : V} (hx : RD K N H x w) : ∀ {ds : List D} {vs : List V} (i : Nat), RDs K N H ds vs → RDs K N H (ds.set i x) (vs.set i w)
  | [], _, _, h => by
    rw [show _ = [] from h]
    rfl
  | d :: ds, _, 0, h => by
    obtain ⟨v, r, rfl, h1, h2⟩ := h
    exact ⟨w, r, rfl, hx, h2⟩
  | d :: ds, _, i + 1, h => by
    obtain ⟨v, r, rfl, h1, h2⟩ := h
    exact ⟨v, _, rfl, h1, RDs.set hx i h2⟩
end

/-! ### the owned cells -/
/-- the pairs of a dict whose keys are tuples, wherever these stand -/
def KX (K : PySem.W.Frag) (N : List Addr) (H : Hp) : List (List Key × D) → List (List Key × Addr × Value) → Prop
  | [], xs => xs = []
  | (k, d) :: r, xs => ∃ q u v xs', xs = (k, q, u) :: xs' ∧ RD K N H (.tup (k.map keyD)) (.ref q) ∧ RelV v u ∧ RD K N H d v ∧ KX K N H r xs'
theorem KX.keep {K : PySem.W.Frag} {N N' : List Addr} {H H' : Hp} (k : Keep N H N' H') : ∀ (ds : List (List Key × D)) (xs : List (List Key × Addr × Value)), KX K N H ds xs → KX K N' H' ds xs
  | [], _, h => h
  | (_, d) :: ds, _, h => by
    obtain ⟨q, u, v, r, e, h0, h1, h2, h3⟩ := h
    exact ⟨q, u, v, r, e, RD.keep k _ _ h0, h1, RD.keep k d v h2, KX.keep k ds r h3⟩
def Dx (P : Program) (w : World) (a : Addr) (xs : List (List Key × Addr × Value)) (ep : Nat) (h : Heap) : Prop :=
  ∃ o es, h.get? a = some o ∧ o.ExactDict ∧ o.data = .dict es ep ∧ es.toList = xs.map (entryOfKey (tupleKind (mixKind P w)))
/-- the object o has the content m -/
def Rc (K : PySem.W.Frag) (N : List Addr) (H : Hp) : M → HO → Prop
  | .lst ds, o => ∃ vs, o = .lst vs ∧ RDs K N H ds vs
  | .dK kvs, o => ∃ kv, o = .dK kv ∧ KD K N H kvs kv
  | .dT P w a kvs, o => ∃ xs ep, o = .ext (Dx P w a xs ep) ∧ xs.length ≤ sizeLine ∧ (a == sysModules) = false ∧ (xs.map (·.1)).Nodup ∧ KX K N H kvs xs
  | .ins C ns ds, o => ∃ dx vs, o = .ins C dx (ns.zip vs) ∧ ns.length = vs.length ∧ RDs K N H ds vs
theorem Rc.keep {K : PySem.W.Frag} {N N' : List Addr} {H H' : Hp} {m : M} {o : HO} (k : Keep N H N' H') (h : Rc K N H m o) : Rc K N' H' m o := by
  cases m with
  | lst ds => obtain ⟨vs, h1, h2⟩ := h; exact ⟨vs, h1, RDs.keep k _ _ h2⟩
  | dK kvs => obtain ⟨vs, h1, h2⟩ := h; exact ⟨vs, h1, KD.keep k _ _ h2⟩
  | dT P w a kvs => obtain ⟨xs, ep, h1, h2, h3, h4, h5⟩ := h; exact ⟨xs, ep, h1, h2, h3, h4, KX.keep k _ _ h5⟩
  | ins C ns ds => obtain ⟨dx, vs, h1, h2, h3⟩ := h; exact ⟨dx, vs, h1, h2, RDs.keep k _ _ h3⟩
theorem Rc.mut {K : PySem.W.Frag} {N : List Addr} {H : Hp} {m : M} {o : HO} (h : Rc K N H m o) : Mut (some o) := by
  cases m with
  | lst ds => obtain ⟨vs, rfl, _⟩ := h; trivial
  | dK kvs => obtain ⟨vs, rfl, _⟩ := h; trivial
  | dT P w a kvs => obtain ⟨xs, ep, rfl, _⟩ := h; trivial
  | ins C ns ds => obtain ⟨dx, vs, rfl, _⟩ := h; trivial
def Rm (K : PySem.W.Frag) (N : List Addr) (H : Hp) (a : Addr) (m : M) : Prop := ∃ o, H a = some o ∧ Rc K N H m o
structure Ob (K : PySem.W.Frag) (G : List Cell) (H : Hp) : Prop where
  nd : (dm G).Nodup
  at_ : ∀ a m, (a, m) ∈ G → Rm K (dm G) H a m
/-- from a to b the address a holds the same object, all frozen is kept -/
theorem Rm.keep {K : PySem.W.Frag} {N N' : List Addr} {H H' : Hp} {a : Addr} {m : M} (k : Keep N H N' H') (e : H' a = H a) (h : Rm K N H a m) : Rm K N' H' a m :=
  let ⟨o, h1, h2⟩ := h
  ⟨o, e.trans h1, h2.keep k⟩
section
variable {K : PySem.W.Frag} {G : List Cell} {H : Hp}
theorem Ob.mem_none (ob : Ob K G H) {p : Addr} (h : H p = none) : p ∉ dm G := fun hm => by
  obtain ⟨⟨a, m⟩, hc, rfl⟩ := List.mem_map.mp hm
  obtain ⟨o, e, _⟩ := ob.at_ a m hc
  rw [h] at e
  cases e
/-- a new object that nobody owns -/
theorem Keep.newF {N : List Addr} {p : Addr} {o : HO} (h : H p = none) : Keep N H N (upd H p o) := fun b u e n => ⟨by rw [upd_ne (ne_of_none e h)]; exact e, n⟩
theorem Ob.newF (ob : Ob K G H) {p : Addr} {o : HO} (h : H p = none) : Ob K G (upd H p o) := ⟨ob.nd, fun a m hm => by
  have k : Keep (dm G) H (dm G) (upd H p o) := Keep.newF h
  obtain ⟨u, e, _⟩ := ob.at_ a m hm
  exact (ob.at_ a m hm).keep k (upd_ne (ne_of_none e h))⟩
end

/-! ### the judgements -/
def sem (X : Cx) (e : Expr) : TE := fun σ H Q => ∀ (pins : List (Addr × Obj)) (s : Shared), Inv X pins σ H s → wpAny (model X.prog X.w) X.A (eval e X.env) (EP X pins σ Q) X.xe s
theorem _root_.L2.PE.self {X : Cx} {e : Expr} : PE X e (sem X e) := ⟨fun pins s σ H Q I h => h pins s I⟩
theorem _root_.L2.PE.get {X : Cx} {e : Expr} {t : TE} (h : PE X e t) {σ : L2.St} {H : Hp} {Q : VK} (q : t σ H Q) : sem X e σ H Q := fun pins s I => h.run pins s σ H Q I q
theorem sem.imp {X : Cx} {e : Expr} {σ : L2.St} {H : Hp} {Q Q' : VK} (h : sem X e σ H Q) (k : ∀ v H', Q v H' → Q' v H') : sem X e σ H Q' := fun pins s I =>
  thn (h pins s I) fun u s' ⟨v, H', I', r, q⟩ => ⟨v, H', I', r, k v H' q⟩
def semT (X : Cx) (e : Expr) : TT := fun σ H Q => ∀ (pins : List (Addr × Obj)) (s : Shared), Inv X pins σ H s → wpAny (model X.prog X.w) X.A (isTrue e X.env (eval e X.env)) (TP X pins σ Q) X.xe s
theorem _root_.L2.PT.self {X : Cx} {e : Expr} : PT X e (semT X e) := ⟨fun pins s σ H Q I h => h pins s I⟩
theorem _root_.L2.PT.get {X : Cx} {e : Expr} {t : TT} (h : PT X e t) {σ : L2.St} {H : Hp} {Q : Bool → Hp → Prop} (q : t σ H Q) : semT X e σ H Q := fun pins s I => h.run pins s σ H Q I q
theorem semT.imp {X : Cx} {e : Expr} {σ : L2.St} {H : Hp} {Q Q' : Bool → Hp → Prop} (h : semT X e σ H Q) (k : ∀ v H', Q v H' → Q' v H') : semT X e σ H Q' := fun pins s I =>
  thn (h pins s I) fun u s' ⟨H', I', q⟩ => ⟨H', I', k u H' q⟩
def semW (X : Cx) (e : Expr) : TT := fun σ H Q => ∀ (whole : Sem Value) (pins : List (Addr × Obj)) (s : Shared), Inv X pins σ H s → wpAny (model X.prog X.w) X.A (isTrue e X.env whole) (TP X pins σ Q) X.xe s
theorem _root_.L2.PW.self {X : Cx} {e : Expr} : PW X e (semW X e) := ⟨fun whole pins s σ H Q I h => h whole pins s I⟩
theorem _root_.L2.PW.get {X : Cx} {e : Expr} {t : TT} (h : PW X e t) {σ : L2.St} {H : Hp} {Q : Bool → Hp → Prop} (q : t σ H Q) : semW X e σ H Q := fun whole pins s I => h.run whole pins s σ H Q I q
theorem semW.imp {X : Cx} {e : Expr} {σ : L2.St} {H : Hp} {Q Q' : Bool → Hp → Prop} (h : semW X e σ H Q) (k : ∀ v H', Q v H' → Q' v H') : semW X e σ H Q' := fun whole pins s I =>
  thn (h whole pins s I) fun u s' ⟨H', I', q⟩ => ⟨H', I', k u H' q⟩
def semA (X : Cx) (es : List Expr) : TA := fun σ H Q => ∀ (pos : Pos) (pins : List (Addr × Obj)) (s : Shared), Inv X pins σ H s → wpAny (model X.prog X.w) X.A (spliced (backTo pos (starEach es X.env))) (AP X pins σ Q) X.xe s
theorem _root_.L2.PA.self {X : Cx} {es : List Expr} : PA X es (semA X es) := ⟨fun pos pins s σ H Q I h => h pos pins s I⟩
theorem _root_.L2.PA.get {X : Cx} {es : List Expr} {t : TA} (h : PA X es t) {σ : L2.St} {H : Hp} {Q : List V → Hp → Prop} (q : t σ H Q) : semA X es σ H Q := fun pos pins s I => h.run pos pins s σ H Q I q
theorem semA.imp {X : Cx} {es : List Expr} {σ : L2.St} {H : Hp} {Q Q' : List V → Hp → Prop} (h : semA X es σ H Q) (k : ∀ v H', Q v H' → Q' v H') : semA X es σ H Q' := fun pos pins s I =>
  thn (h pos pins s I) fun u s' ⟨v, H', I', r, q⟩ => ⟨v, H', I', r, k v H' q⟩
def semS (X : Cx) (st : Stmt) : TS := fun D σ H => ∀ (pins : List (Addr × Obj)) (s : Shared), Inv X pins σ H s → wpAny (model X.prog X.w) X.A (exec st X.env) (SP X pins D) X.xe s
theorem _root_.L2.PS.self {X : Cx} {st : Stmt} : PS X st (semS X st) := ⟨fun pins s σ H D I h => h pins s I⟩
theorem _root_.L2.PS.get {X : Cx} {st : Stmt} {t : TS} (h : PS X st t) {σ : L2.St} {H : Hp} {D : Ends} (q : t D σ H) : semS X st D σ H := fun pins s I => h.run pins s σ H D I q
def semB (X : Cx) (st : List Stmt) : TS := fun D σ H => ∀ (pins : List (Addr × Obj)) (s : Shared), Inv X pins σ H s → wpAny (model X.prog X.w) X.A (execs st X.env) (SP X pins D) X.xe s
theorem _root_.L2.PSs.self {X : Cx} {st : List Stmt} : PSs X st (semB X st) := ⟨fun pins s σ H D I h => h pins s I⟩
theorem _root_.L2.PSs.get {X : Cx} {st : List Stmt} {t : TS} (h : PSs X st t) {σ : L2.St} {H : Hp} {D : Ends} (q : t D σ H) : semB X st D σ H := fun pins s I => h.run pins s σ H D I q
structure EndsLe (D D' : Ends) : Prop where
  nx : ∀ σ H, D.nx σ H → D'.nx σ H
  rt : ∀ v H, D.rt v H → D'.rt v H
  bk : ∀ σ H, D.bk σ H → D'.bk σ H
  ct : ∀ σ H, D.ct σ H → D'.ct σ H
theorem SP_imp {X : Cx} {pins : List (Addr × Obj)} {D D' : Ends} (le : EndsLe D D') {f : Flow} {s : Shared} (h : SP X pins D f s) : SP X pins D' f s := by
  cases f with
  | next => obtain ⟨σ, H, I, q⟩ := h; exact ⟨σ, H, I, le.nx σ H q⟩
  | brk => obtain ⟨σ, H, I, q⟩ := h; exact ⟨σ, H, I, le.bk σ H q⟩
  | cont => obtain ⟨σ, H, I, q⟩ := h; exact ⟨σ, H, I, le.ct σ H q⟩
  | ret u => obtain ⟨v, σ, H, I, r, q⟩ := h; exact ⟨v, σ, H, I, r, le.rt v H q⟩
theorem semS.imp {X : Cx} {st : Stmt} {σ : L2.St} {H : Hp} {D D' : Ends} (h : semS X st D σ H) (le : EndsLe D D') : semS X st D' σ H := fun pins s I => thn (h pins s I) fun _ _ q => SP_imp le q
theorem semB.imp {X : Cx} {st : List Stmt} {σ : L2.St} {H : Hp} {D D' : Ends} (h : semB X st D σ H) (le : EndsLe D D') : semB X st D' σ H := fun pins s I => thn (h pins s I) fun _ _ q => SP_imp le q

abbrev QD := D → Pt → Prop
abbrev QT := Bool → Pt → Prop
abbrev QA := List D → Pt → Prop
/-- what is wanted of an exception of an own class: class, fields, cells -/
abbrev RX := Addr → List (Str × D) → Pt → Prop
abbrev R0 : RX := fun _ _ _ => False

def Post (K : PySem.W.Frag) (F : List Cell) (Gs : Pt) (H : Hp) (Q : QD) : VK := fun v H' => ∃ d Gs', Ob K (tot Gs' F) H' ∧ Keep (dm (tot Gs F)) H (dm (tot Gs' F)) H' ∧ RD K (dm (tot Gs' F)) H' d v ∧ Q d Gs'
def PostT (K : PySem.W.Frag) (F : List Cell) (Gs : Pt) (H : Hp) (Q : QT) : Bool → Hp → Prop := fun b H' => ∃ Gs', Ob K (tot Gs' F) H' ∧ Keep (dm (tot Gs F)) H (dm (tot Gs' F)) H' ∧ Q b Gs'
def PostA (K : PySem.W.Frag) (F : List Cell) (Gs : Pt) (H : Hp) (Q : QA) : List V → Hp → Prop := fun vs H' => ∃ ds Gs', Ob K (tot Gs' F) H' ∧ Keep (dm (tot Gs F)) H (dm (tot Gs' F)) H' ∧ RDs K (dm (tot Gs' F)) H' ds vs ∧ Q ds Gs'
def XR (K : PySem.W.Frag) (N : List Addr) (H : Hp) (od : Option Addr) (fs : List (Str × D)) : Prop :=
  (fs = [] ∧ od = none) ∨ ∃ d vs, fs ≠ [] ∧ od = some d ∧ d ∉ N ∧ H d = some (.xd ((fs.map (·.1)).zip vs)) ∧ RDs K N H (fs.map (·.2)) vs
def Wx (K : PySem.W.Frag) (F : List Cell) (Gs : Pt) (H : Hp) (R : RX) : XK := fun cls od H' => ∃ C fs Gs', cls = .ref C ∧ Ob K (tot Gs' F) H' ∧ Keep (dm (tot Gs F)) H (dm (tot Gs' F)) H' ∧ XR K (dm (tot Gs' F)) H' od fs ∧ R C fs Gs'
def Sl (K : PySem.W.Frag) (N : List Addr) (H : Hp) (σd : Sd) (σ : L2.St) : Prop := σd.length = σ.length ∧ ∀ (i : Nat) (d : D), σd[i]? = some (some d) → ∃ v, σ[i]? = some (some v) ∧ RD K N H d v
theorem Sl.keep {K : PySem.W.Frag} {N N' : List Addr} {H H' : Hp} {σd : Sd} {σ : L2.St} (s : Sl K N H σd σ) (k : Keep N H N' H') : Sl K N' H' σd σ := ⟨s.1, fun i d e => let ⟨v, e2, r⟩ := s.2 i d e; ⟨v, e2, RD.keep k d v r⟩⟩
theorem Sl.set {K : PySem.W.Frag} {N : List Addr} {H : Hp} {σd : Sd} {σ : L2.St} {d : D} {v : V} (s : Sl K N H σd σ) (r : RD K N H d v) (i : Nat) : Sl K N H (σd.set i (some d)) (σ.set i (some v)) := by
  refine ⟨by rw [List.length_set, List.length_set]; exact s.1, fun j x e => ?_⟩
  by_cases h : i = j
  · subst h
    have hi : i < σd.length := by
      have := (List.getElem?_eq_some_iff.mp e).1
      rwa [List.length_set] at this
    rw [List.getElem?_set_self hi] at e
    cases e
    exact ⟨v, List.getElem?_set_self (by rw [← s.1]; exact hi), r⟩
  · rw [List.getElem?_set_ne h] at e ⊢
    exact s.2 j x e
theorem Wx.trans {K : PySem.W.Frag} {F : List Cell} {Gs0 Gs : Pt} {H0 H : Hp} {R : RX} (k : Keep (dm (tot Gs0 F)) H0 (dm (tot Gs F)) H) {c : Value} {od : Option Addr} {H' : Hp} (h : Wx K F Gs H R c od H') : Wx K F Gs0 H0 R c od H' :=
  let ⟨C, fs, Gs', e, ob, k', x, r⟩ := h
  ⟨C, fs, Gs', e, ob, k.trans k', x, r⟩
/-- how exceptions are taken where the code stands -/
structure Wh (X : Cx) (pn : List (Addr × Obj)) (xe : Value → Shared → Prop) (E : XK) : Prop where
  tk : Takes (X.tr pn xe) (fun c d _ H => E c d H)
  po : PassesOwn (model X.prog X.w) X.A X.env xe

def EvD (X : Cx) (e : Expr) (σd : Sd) (Gs : Pt) (Q : QD) (R : RX) : Prop :=
  ∀ pn xe E F σ H, Wh X pn xe E → (∀ c od H', Wx X.K F Gs H R c od H' → E c od H') → Ob X.K (tot Gs F) H → Sl X.K (dm (tot Gs F)) H σd σ → sem (X.tr pn xe) e σ H (Post X.K F Gs H Q)
def EvT (X : Cx) (e : Expr) (σd : Sd) (Gs : Pt) (Q : QT) (R : RX) : Prop :=
  ∀ pn xe E F σ H, Wh X pn xe E → (∀ c od H', Wx X.K F Gs H R c od H' → E c od H') → Ob X.K (tot Gs F) H → Sl X.K (dm (tot Gs F)) H σd σ → semT (X.tr pn xe) e σ H (PostT X.K F Gs H Q)
def EvW (X : Cx) (e : Expr) (σd : Sd) (Gs : Pt) (Q : QT) (R : RX) : Prop :=
  ∀ pn xe E F σ H, Wh X pn xe E → (∀ c od H', Wx X.K F Gs H R c od H' → E c od H') → Ob X.K (tot Gs F) H → Sl X.K (dm (tot Gs F)) H σd σ → semW (X.tr pn xe) e σ H (PostT X.K F Gs H Q)
def EvA (X : Cx) (es : List Expr) (σd : Sd) (Gs : Pt) (Q : QA) (R : RX) : Prop :=
  ∀ pn xe E F σ H, Wh X pn xe E → (∀ c od H', Wx X.K F Gs H R c od H' → E c od H') → Ob X.K (tot Gs F) H → Sl X.K (dm (tot Gs F)) H σd σ → semA (X.tr pn xe) es σ H (PostA X.K F Gs H Q)
structure DE where
  nx : Sd → Pt → Prop
  rt : QD
  bk : Sd → Pt → Prop := fun _ _ => False
  ct : Sd → Pt → Prop := fun _ _ => False
  ex : RX := R0
def PostS (K : PySem.W.Frag) (F : List Cell) (Gs : Pt) (H : Hp) (Q : Sd → Pt → Prop) : L2.St → Hp → Prop := fun σ' H' => ∃ σd' Gs', Ob K (tot Gs' F) H' ∧ Keep (dm (tot Gs F)) H (dm (tot Gs' F)) H' ∧ Sl K (dm (tot Gs' F)) H' σd' σ' ∧ Q σd' Gs'
def EndsOf (K : PySem.W.Frag) (F : List Cell) (Gs : Pt) (H : Hp) (D : DE) : Ends := { nx := PostS K F Gs H D.nx, rt := Post K F Gs H D.rt, bk := PostS K F Gs H D.bk, ct := PostS K F Gs H D.ct }
def StD (X : Cx) (st : Stmt) (σd : Sd) (Gs : Pt) (D : DE) : Prop :=
  ∀ pn xe E F σ H, Wh X pn xe E → (∀ c od H', Wx X.K F Gs H D.ex c od H' → E c od H') → Ob X.K (tot Gs F) H → Sl X.K (dm (tot Gs F)) H σd σ → semS (X.tr pn xe) st (EndsOf X.K F Gs H D) σ H
def SsD (X : Cx) (st : List Stmt) (σd : Sd) (Gs : Pt) (D : DE) : Prop :=
  ∀ pn xe E F σ H, Wh X pn xe E → (∀ c od H', Wx X.K F Gs H D.ex c od H' → E c od H') → Ob X.K (tot Gs F) H → Sl X.K (dm (tot Gs F)) H σd σ → semB (X.tr pn xe) st (EndsOf X.K F Gs H D) σ H

section
variable {X : Cx} {e : Expr} {es : List Expr} {σd : Sd} {Gs Gs0 : Pt} {Q : QD} {R : RX} {pn : List (Addr × Obj)} {xe : Value → Shared → Prop} {E : XK} {F : List Cell} {σ : L2.St} {H H0 : Hp}
theorem EvD.go (h : EvD X e σd Gs Q R) (wh : Wh X pn xe E) (hE : ∀ c od H', Wx X.K F Gs0 H0 R c od H' → E c od H') (k0 : Keep (dm (tot Gs0 F)) H0 (dm (tot Gs F)) H) (ob : Ob X.K (tot Gs F) H) (sl : Sl X.K (dm (tot Gs F)) H σd σ) {Qh : VK}
    (k : ∀ v H' d Gs', Ob X.K (tot Gs' F) H' → Keep (dm (tot Gs0 F)) H0 (dm (tot Gs' F)) H' → Keep (dm (tot Gs F)) H (dm (tot Gs' F)) H' → Sl X.K (dm (tot Gs' F)) H' σd σ → RD X.K (dm (tot Gs' F)) H' d v → Q d Gs' → Qh v H') : sem (X.tr pn xe) e σ H Qh :=
  (h pn xe E F σ H wh (fun c od H' w => hE c od H' (w.trans k0)) ob sl).imp fun v H' ⟨d, Gs', ob', k', r, q⟩ => k v H' d Gs' ob' (k0.trans k') k' (sl.keep k') r q
theorem EvT.go {Q : QT} (h : EvT X e σd Gs Q R) (wh : Wh X pn xe E) (hE : ∀ c od H', Wx X.K F Gs0 H0 R c od H' → E c od H') (k0 : Keep (dm (tot Gs0 F)) H0 (dm (tot Gs F)) H) (ob : Ob X.K (tot Gs F) H) (sl : Sl X.K (dm (tot Gs F)) H σd σ) {Qh : Bool → Hp → Prop}
    (k : ∀ v H' Gs', Ob X.K (tot Gs' F) H' → Keep (dm (tot Gs0 F)) H0 (dm (tot Gs' F)) H' → Keep (dm (tot Gs F)) H (dm (tot Gs' F)) H' → Sl X.K (dm (tot Gs' F)) H' σd σ → Q v Gs' → Qh v H') : semT (X.tr pn xe) e σ H Qh :=
  (h pn xe E F σ H wh (fun c od H' w => hE c od H' (w.trans k0)) ob sl).imp fun v H' ⟨Gs', ob', k', q⟩ => k v H' Gs' ob' (k0.trans k') k' (sl.keep k') q
theorem EvW.go {Q : QT} (h : EvW X e σd Gs Q R) (wh : Wh X pn xe E) (hE : ∀ c od H', Wx X.K F Gs0 H0 R c od H' → E c od H') (k0 : Keep (dm (tot Gs0 F)) H0 (dm (tot Gs F)) H) (ob : Ob X.K (tot Gs F) H) (sl : Sl X.K (dm (tot Gs F)) H σd σ) {Qh : Bool → Hp → Prop}
    (k : ∀ v H' Gs', Ob X.K (tot Gs' F) H' → Keep (dm (tot Gs0 F)) H0 (dm (tot Gs' F)) H' → Keep (dm (tot Gs F)) H (dm (tot Gs' F)) H' → Sl X.K (dm (tot Gs' F)) H' σd σ → Q v Gs' → Qh v H') : semW (X.tr pn xe) e σ H Qh :=
  (h pn xe E F σ H wh (fun c od H' w => hE c od H' (w.trans k0)) ob sl).imp fun v H' ⟨Gs', ob', k', q⟩ => k v H' Gs' ob' (k0.trans k') k' (sl.keep k') q
theorem EvA.go {Q : QA} (h : EvA X es σd Gs Q R) (wh : Wh X pn xe E) (hE : ∀ c od H', Wx X.K F Gs0 H0 R c od H' → E c od H') (k0 : Keep (dm (tot Gs0 F)) H0 (dm (tot Gs F)) H) (ob : Ob X.K (tot Gs F) H) (sl : Sl X.K (dm (tot Gs F)) H σd σ) {Qh : List V → Hp → Prop}
    (k : ∀ v H' d Gs', Ob X.K (tot Gs' F) H' → Keep (dm (tot Gs0 F)) H0 (dm (tot Gs' F)) H' → Keep (dm (tot Gs F)) H (dm (tot Gs' F)) H' → Sl X.K (dm (tot Gs' F)) H' σd σ → RDs X.K (dm (tot Gs' F)) H' d v → Q d Gs' → Qh v H') : semA (X.tr pn xe) es σ H Qh :=
  (h pn xe E F σ H wh (fun c od H' w => hE c od H' (w.trans k0)) ob sl).imp fun v H' ⟨d, Gs', ob', k', r, q⟩ => k v H' d Gs' ob' (k0.trans k') k' (sl.keep k') r q
theorem Post.of {K : PySem.W.Frag} (ob : Ob K (tot Gs F) H) (k : Keep (dm (tot Gs0 F)) H0 (dm (tot Gs F)) H) {d : D} {v : V} (r : RD K (dm (tot Gs F)) H d v) (q : Q d Gs) : Post K F Gs0 H0 Q v H := ⟨d, Gs, ob, k, r, q⟩
theorem Post.trans {K : PySem.W.Frag} (k : Keep (dm (tot Gs0 F)) H0 (dm (tot Gs F)) H) {v : V} {H' : Hp} (h : Post K F Gs H Q v H') : Post K F Gs0 H0 Q v H' := let ⟨d, Gs', ob, k', r, q⟩ := h; ⟨d, Gs', ob, k.trans k', r, q⟩
theorem PostS.trans {K : PySem.W.Frag} {Q : Sd → Pt → Prop} (k : Keep (dm (tot Gs0 F)) H0 (dm (tot Gs F)) H) {v : L2.St} {H' : Hp} (h : PostS K F Gs H Q v H') : PostS K F Gs0 H0 Q v H' := let ⟨d, Gs', ob, k', r, q⟩ := h; ⟨d, Gs', ob, k.trans k', r, q⟩
theorem EndsOf.trans {K : PySem.W.Frag} {D : DE} (k : Keep (dm (tot Gs0 F)) H0 (dm (tot Gs F)) H) : EndsLe (EndsOf K F Gs H D) (EndsOf K F Gs0 H0 D) := ⟨fun _ _ h => h.trans k, fun _ _ h => h.trans k, fun _ _ h => h.trans k, fun _ _ h => h.trans k⟩
theorem StD.go {st : Stmt} {D : DE} (h : StD X st σd Gs D) (wh : Wh X pn xe E) (hE : ∀ c od H', Wx X.K F Gs0 H0 D.ex c od H' → E c od H') (k0 : Keep (dm (tot Gs0 F)) H0 (dm (tot Gs F)) H) (ob : Ob X.K (tot Gs F) H) (sl : Sl X.K (dm (tot Gs F)) H σd σ) :
    semS (X.tr pn xe) st (EndsOf X.K F Gs0 H0 D) σ H := (h pn xe E F σ H wh (fun c od H' w => hE c od H' (w.trans k0)) ob sl).imp (EndsOf.trans k0)
theorem SsD.go {st : List Stmt} {D : DE} (h : SsD X st σd Gs D) (wh : Wh X pn xe E) (hE : ∀ c od H', Wx X.K F Gs0 H0 D.ex c od H' → E c od H') (k0 : Keep (dm (tot Gs0 F)) H0 (dm (tot Gs F)) H) (ob : Ob X.K (tot Gs F) H) (sl : Sl X.K (dm (tot Gs F)) H σd σ) :
    semB (X.tr pn xe) st (EndsOf X.K F Gs0 H0 D) σ H := (h pn xe E F σ H wh (fun c od H' w => hE c od H' (w.trans k0)) ob sl).imp (EndsOf.trans k0)
end
end Dl
namespace Dl
open PySem PySem.Spec PyProof.Rows L2

/-! ### cells found and changed -/
inductive HasP : List Cell → Addr → M → Prop
  | here {a : Addr} {m : M} {P : List Cell} : HasP ((a, m) :: P) a m
  | next {a : Addr} {m : M} {c : Cell} {P : List Cell} : HasP P a m → HasP (c :: P) a m
inductive Has : Pt → Addr → M → Prop
  | here {a : Addr} {m : M} {P : List Cell} {r : Pt} : HasP P a m → Has (P :: r) a m
  | next {a : Addr} {m : M} {P : List Cell} {r : Pt} : Has r a m → Has (P :: r) a m
inductive UpdP : List Cell → Addr → M → M → List Cell → Prop
  | here {a : Addr} {m m' : M} {P : List Cell} : UpdP ((a, m) :: P) a m m' ((a, m') :: P)
  | next {a : Addr} {m m' : M} {c : Cell} {P P' : List Cell} : UpdP P a m m' P' → UpdP (c :: P) a m m' (c :: P')
inductive Upd : Pt → Addr → M → M → Pt → Prop
  | here {a : Addr} {m m' : M} {P P' : List Cell} {r : Pt} : UpdP P a m m' P' → Upd (P :: r) a m m' (P' :: r)
  | next {a : Addr} {m m' : M} {P : List Cell} {r r' : Pt} : Upd r a m m' r' → Upd (P :: r) a m m' (P :: r')
theorem HasP.mem {P : List Cell} {a : Addr} {m : M} (h : HasP P a m) : (a, m) ∈ P := by
  induction h with
  | here => exact List.mem_cons_self
  | next _ ih => exact List.mem_cons_of_mem _ ih
theorem Has.mem {Gs : Pt} {a : Addr} {m : M} (h : Has Gs a m) {F : List Cell} : (a, m) ∈ tot Gs F := by
  refine List.mem_append_left _ ?_
  induction h with
  | here h => exact List.mem_append_left _ h.mem
  | next _ ih => exact List.mem_append_right _ ih
theorem UpdP.has {P P' : List Cell} {a : Addr} {m m' : M} (h : UpdP P a m m' P') : HasP P a m := by
  induction h with
  | here => exact .here
  | next _ ih => exact .next ih
theorem Upd.has {P P' : Pt} {a : Addr} {m m' : M} (h : Upd P a m m' P') : Has P a m := by
  induction h with
  | here h => exact .here h.has
  | next _ ih => exact .next ih
theorem UpdP.dom {P P' : List Cell} {a : Addr} {m m' : M} (h : UpdP P a m m' P') : P'.map (·.1) = P.map (·.1) := by
  induction h with
  | here => rfl
  | next _ ih =>
    rw [List.map_cons, List.map_cons, ih]
theorem UpdP.back {P P' : List Cell} {a : Addr} {m m' : M} (h : UpdP P a m m' P') : ∀ c ∈ P', c = (a, m') ∨ c ∈ P := by
  induction h with
  | here =>
    intro c hc
    rcases List.mem_cons.mp hc with rfl | hc
    · exact .inl rfl
    · exact .inr (List.mem_cons_of_mem _ hc)
  | next _ ih =>
    intro c hc
    rcases List.mem_cons.mp hc with rfl | hc
    · exact .inr List.mem_cons_self
    · rcases ih c hc with h | h
      · exact .inl h
      · exact .inr (List.mem_cons_of_mem _ h)
theorem Upd.dom {P P' : Pt} {a : Addr} {m m' : M} (h : Upd P a m m' P') (F : List Cell) : dm (tot P' F) = dm (tot P F) := by
  unfold tot dm
  rw [List.map_append, List.map_append]
  congr 1
  induction h with
  | here h => rw [List.flatten_cons, List.flatten_cons, List.map_append, List.map_append, h.dom]
  | next _ ih => rw [List.flatten_cons, List.flatten_cons, List.map_append, List.map_append, ih]
theorem Upd.back0 {P P' : Pt} {a : Addr} {m m' : M} (h : Upd P a m m' P') : ∀ c ∈ P'.flatten, c = (a, m') ∨ c ∈ P.flatten := by
  induction h with
  | here h =>
    intro c hc
    rw [List.flatten_cons] at hc ⊢
    rcases List.mem_append.mp hc with hc | hc
    · rcases h.back c hc with q | q
      · exact .inl q
      · exact .inr (List.mem_append_left _ q)
    · exact .inr (List.mem_append_right _ hc)
  | next _ ih =>
    intro c hc
    rw [List.flatten_cons] at hc ⊢
    rcases List.mem_append.mp hc with hc | hc
    · exact .inr (List.mem_append_left _ hc)
    · rcases ih c hc with q | q
      · exact .inl q
      · exact .inr (List.mem_append_right _ q)
theorem Upd.back {P P' : Pt} {a : Addr} {m m' : M} (h : Upd P a m m' P') {F : List Cell} : ∀ c ∈ tot P' F, c = (a, m') ∨ c ∈ tot P F := by
  intro c hc
  rcases List.mem_append.mp hc with hc | hc
  · rcases h.back0 c hc with q | q
    · exact .inl q
    · exact .inr (List.mem_append_left _ q)
  · exact .inr (List.mem_append_right _ hc)
theorem UpdP.has' {P P' : List Cell} {a : Addr} {m m' : M} (h : UpdP P a m m' P') : HasP P' a m' := by
  induction h with
  | here => exact .here
  | next _ ih => exact .next ih
theorem Upd.has' {P P' : Pt} {a : Addr} {m m' : M} (h : Upd P a m m' P') : Has P' a m' := by
  induction h with
  | here h => exact .here h.has'
  | next _ ih => exact .next ih
section
variable {K : PySem.W.Frag} {Gs Gs' : Pt} {F : List Cell} {H : Hp} {a : Addr} {m m' : M} {o : HO}
theorem Ob.get (ob : Ob K (tot Gs F) H) (h : Has Gs a m) : Rm K (dm (tot Gs F)) H a m := ob.at_ a m h.mem
theorem mem_dm (h : Has Gs a m) : a ∈ dm (tot Gs F) := List.mem_map.mpr ⟨(a, m), h.mem, rfl⟩
theorem Keep.upd {N : List Addr} (h : a ∈ N) : Keep N H N (L2.upd H a o) := fun b u e n => ⟨by rw [upd_ne (fun z => n (by rw [z]; exact h))]; exact e, n⟩
theorem nd_uniq {G : List Cell} (nd : (dm G).Nodup) {a : Addr} {m m' : M} (h : (a, m) ∈ G) (h' : (a, m') ∈ G) : m = m' := by
  induction G with
  | nil => cases h
  | cons c r ih =>
    have nd' : (c.1 :: dm r).Nodup := nd
    obtain ⟨n1, n2⟩ := List.nodup_cons.mp nd'
    have inr : ∀ {x : M}, (a, x) ∈ r → a ∈ dm r := fun {x} hx => List.mem_map.mpr ⟨(a, x), hx, rfl⟩
    rcases List.mem_cons.mp h with e | h
    · rcases List.mem_cons.mp h' with e' | h'
      · rw [← e] at e'
        cases e'; rfl
      · rw [← e] at n1
        exact absurd (inr h') n1
    · rcases List.mem_cons.mp h' with e' | h'
      · rw [← e'] at n1
        exact absurd (inr h) n1
      · exact ih n2 h h'
/-- a cell is written -/
theorem Ob.upd (ob : Ob K (tot Gs F) H) (u : Upd Gs a m m' Gs') (r : Rc K (dm (tot Gs F)) H m' o) : Ob K (tot Gs' F) (L2.upd H a o) := by
  have ea := u.dom F
  have hm : a ∈ dm (tot Gs F) := mem_dm u.has
  have kp : Keep (dm (tot Gs F)) H (dm (tot Gs F)) (L2.upd H a o) := Keep.upd hm
  refine ⟨by rw [ea]; exact ob.nd, fun b x hb => ?_⟩
  rw [ea]
  by_cases hba : b = a
  · subst hba
    have nd' : (dm (tot Gs' F)).Nodup := by rw [ea]; exact ob.nd
    rw [nd_uniq nd' hb u.has'.mem]
    exact ⟨o, upd_same, r.keep kp⟩
  · rcases u.back (b, x) hb with e | e
    · cases e; exact absurd rfl hba
    · exact (ob.at_ b x e).keep kp (upd_ne hba)
theorem Keep.updD {Gs Gs' : Pt} (u : Upd Gs a m m' Gs') : Keep (dm (tot Gs F)) H (dm (tot Gs' F)) (L2.upd H a o) := by
  rw [u.dom F]
  exact Keep.upd (mem_dm u.has)
/-- a new cell, owned -/
theorem Keep.newO {N : List Addr} {p : Addr} (hp : H p = none) : Keep N H (p :: N) (L2.upd H p o) := fun b u h n => ⟨by rw [upd_ne (ne_of_none h hp)]; exact h, fun z => (List.mem_cons.mp z).elim (fun q => ne_of_none h hp q) n⟩
theorem Ob.new (ob : Ob K (tot Gs F) H) {p : Addr} (hp : H p = none) (r : Rc K (dm (tot Gs F)) H m o) : Ob K (tot ([(p, m)] :: Gs) F) (L2.upd H p o) := by
  have hn : p ∉ dm (tot Gs F) := ob.mem_none hp
  have e : tot ([(p, m)] :: Gs) F = (p, m) :: tot Gs F := rfl
  have kp : Keep (dm (tot Gs F)) H (p :: dm (tot Gs F)) (L2.upd H p o) := Keep.newO hp
  refine ⟨by rw [e]; exact List.nodup_cons.mpr ⟨hn, ob.nd⟩, fun b x hb => ?_⟩
  rw [e] at hb ⊢
  show Rm K (p :: dm (tot Gs F)) (L2.upd H p o) b x
  rcases List.mem_cons.mp hb with q | q
  · cases q
    exact ⟨o, upd_same, r.keep kp⟩
  · obtain ⟨u, hu, _⟩ := ob.at_ b x q
    exact (ob.at_ b x q).keep kp (upd_ne (ne_of_none hu hp))
end

/-! ### parts chosen, parts permuted -/
inductive Take : Pt → List Cell → Pt → Prop
  | here {P : List Cell} {r : Pt} : Take (P :: r) P r
  | next {P Q : List Cell} {r r' : Pt} : Take r P r' → Take (Q :: r) P (Q :: r')
inductive Pick : Pt → Pt → Pt → Prop
  | nil {r : Pt} : Pick r [] r
  | cons {P : List Cell} {r r1 r2 Ps : Pt} : Take r P r1 → Pick r1 Ps r2 → Pick r (P :: Ps) r2
theorem Take.has {r r' : Pt} {P : List Cell} (t : Take r P r') {a : Addr} {m : M} (h : HasP P a m) : Has r a m := by
  induction t with
  | here => exact .here h
  | next _ ih => exact .next (ih h)
theorem Take.perm {r : Pt} {P : List Cell} {r' : Pt} (t : Take r P r') : (P ++ r'.flatten).Perm r.flatten := by
  induction t with
  | here => exact .refl _
  | @next P Q r r' _ ih =>
    rw [List.flatten_cons, List.flatten_cons]
    rw [← List.append_assoc]
    exact ((List.perm_append_comm (l₁ := P) (l₂ := Q)).append_right _).trans (by rw [List.append_assoc]; exact ih.append_left Q)
theorem Pick.perm {r Ps r' : Pt} (t : Pick r Ps r') : (Ps.flatten ++ r'.flatten).Perm r.flatten := by
  induction t with
  | nil => exact .refl _
  | cons t _ ih =>
    rw [List.flatten_cons, List.append_assoc]
    exact (ih.append_left _).trans t.perm
section
variable {K : PySem.W.Frag} {N N' : List Addr} {H H' : Hp}
mutual
theorem RD.perm (k : ∀ a, a ∉ N → a ∉ N') : ∀ (d : D) (v : V), RD K N H d v → RD K N' H d v
  | .non, _, h => h
  | .bl _, _, h => h
  | .int _, _, h => h
  | .str _, _, h => h
  | .ref _, _, h => h
  | .scr _, _, h => by
    obtain ⟨a, e, t⟩ := h
    refine ⟨a, e, ?_⟩
    rcases t with ⟨n, t⟩ | t
    · exact .inl ⟨k a n, t⟩
    · exact .inr t
  | .tup ds, _, h => by
    obtain ⟨a, vs, e, t, r⟩ := h
    refine ⟨a, vs, e, ?_, RDs.perm k ds vs r⟩
    rcases t with ⟨n, t⟩ | t
    · exact .inl ⟨k a n, t⟩
    · exact .inr t
  | .lst ds, _, h => by
    obtain ⟨a, vs, e, n, t, r⟩ := h
    exact ⟨a, vs, e, k a n, t, RDs.perm k ds vs r⟩
  | .dct kvs, _, h => by
    obtain ⟨a, o, vs, e, n, t, r⟩ := h
    exact ⟨a, o, vs, e, k a n, t, RDk.perm k kvs vs r⟩
  | .ins C ns ds, _, h => by
    obtain ⟨a, dx, vs, e, n, t, l, r⟩ := h
    exact ⟨a, dx, vs, e, k a n, t, l, RDs.perm k ds vs r⟩
  | .exc a d ns ds, _, h => by
    obtain ⟨e, vs, n, t, l, r⟩ := h
    exact ⟨e, vs, k d n, t, l, RDs.perm k ds vs r⟩
theorem RDs.perm (k : ∀ a, a ∉ N → a ∉ N') : ∀ (ds : List D) (vs : List V), RDs K N H ds vs → RDs K N' H ds vs
  | [], _, h => h
  | d :: ds, _, h => by
    obtain ⟨v, r, e, h1, h2⟩ := h
    exact ⟨v, r, e, RD.perm k d v h1, RDs.perm k ds r h2⟩
theorem RDk.perm (k : ∀ a, a ∉ N → a ∉ N') : ∀ (ds : List (Key × D)) (vs : List (Key × V)), RDk K N H ds vs → RDk K N' H ds vs
  | [], _, h => h
  | (_, d) :: ds, _, h => by
    obtain ⟨v, r, e, h1, h2⟩ := h
    exact ⟨v, r, e, RD.perm k d v h1, RDk.perm k ds r h2⟩
end
theorem KD.perm {κ : Type} (k : ∀ a, a ∉ N → a ∉ N') : ∀ (ds : List (κ × D)) (vs : List (κ × V)), KD K N H ds vs → KD K N' H ds vs
  | [], _, h => h
  | (_, d) :: ds, _, h => by
    obtain ⟨v, r, e, h1, h2⟩ := h
    exact ⟨v, r, e, RD.perm k d v h1, KD.perm k ds r h2⟩
theorem KX.perm (k : ∀ a, a ∉ N → a ∉ N') : ∀ (ds : List (List Key × D)) (xs : List (List Key × Addr × Value)), KX K N H ds xs → KX K N' H ds xs
  | [], _, h => h
  | (_, d) :: ds, _, h => by
    obtain ⟨q, u, v, r, e, h0, h1, h2, h3⟩ := h
    exact ⟨q, u, v, r, e, RD.perm k _ _ h0, h1, RD.perm k d v h2, KX.perm k ds r h3⟩
theorem Rc.perm (k : ∀ a, a ∉ N → a ∉ N') {m : M} {o : HO} (h : Rc K N H m o) : Rc K N' H m o := by
  cases m with
  | lst ds => obtain ⟨vs, h1, h2⟩ := h; exact ⟨vs, h1, RDs.perm k _ _ h2⟩
  | dK kvs => obtain ⟨vs, h1, h2⟩ := h; exact ⟨vs, h1, KD.perm k _ _ h2⟩
  | dT P w a kvs => obtain ⟨xs, ep, h1, h2, h3, h4, h5⟩ := h; exact ⟨xs, ep, h1, h2, h3, h4, KX.perm k _ _ h5⟩
  | ins C ns ds => obtain ⟨dx, vs, h1, h2, h3⟩ := h; exact ⟨dx, vs, h1, h2, RDs.perm k _ _ h3⟩
theorem Keep.self {N N' : List Addr} {H : Hp} (k : ∀ a, a ∉ N → a ∉ N') : Keep N H N' H := fun b _ h n => ⟨h, k b n⟩
theorem Ob.perm {G G' : List Cell} (ob : Ob K G H) (p : G'.Perm G) : Ob K G' H := by
  have pd : (dm G').Perm (dm G) := p.map _
  refine ⟨pd.nodup_iff.mpr ob.nd, fun a m h => ?_⟩
  obtain ⟨o, h1, h2⟩ := ob.at_ a m (p.mem_iff.mp h)
  exact ⟨o, h1, h2.perm fun b hb hb' => hb (pd.mem_iff.mp hb')⟩
/-- cells given up: they stay as they are -/
theorem Ob.sub {G G' : List Cell} (ob : Ob K G H) (p : G'.Sublist G) : Ob K G' H := by
  have pd : (dm G').Sublist (dm G) := p.map _
  refine ⟨ob.nd.sublist pd, fun a m h => ?_⟩
  obtain ⟨o, h1, h2⟩ := ob.at_ a m (p.subset h)
  exact ⟨o, h1, h2.perm fun b hb hb' => hb (pd.subset hb')⟩
end
end Dl
namespace Dl
open PySem PySem.Spec PyProof.Rows L2

/-- a promise: arguments, the cells it is about, what is wanted of its end, of an exception -/
abbrev SpD := List D → Pt → QD → RX → Prop
def toSp (K : PySem.W.Frag) (n : Nat) (sp : SpD) : L2.Sp := fun vs H Q E => vs.length = n ∧ ∃ ds Gs F Qd Rd, RDs K (dm (tot Gs F)) H ds vs ∧ Ob K (tot Gs F) H ∧ sp ds Gs Qd Rd ∧
  (∀ v H', Post K F Gs H Qd v H' → Q v H') ∧ (∀ c od H', Wx K F Gs H Rd c od H' → E c od H')

/-! ### a def's names -/
def okName (x : Str) : Bool := decide (¬ x = "__debug__") && decide (¬ x = "__classdict__") && decide (¬ x = "__name__")
def visC (sc : Scope) (x : Str) : Bool := match sc.names.lookup x with | some .local => true | some .cell => true | some .free => true | _ => false
def locC (sc : Scope) (x : Str) : Bool := match sc.names.lookup x with | some .local => true | some .cell => true | _ => false
def globC (sc : Scope) (x : Str) : Bool := match sc.names.lookup x with | some .globalImplicit => true | _ => false
/-- V: 0 not to be seen here, 1 to be read, 2 to be read and stored -/
def namesC (sc : Scope) (N : List Str) (V : List Nat) (GN : List Str) : Bool :=
  ((N.zip V).all fun p => p.2 == 0 || (okName p.1 && visC sc p.1 && (p.2 == 1 || locC sc p.1))) && GN.all fun x => okName x && globC sc x
def defC (N : List Str) (V : List Nat) (GN ps : List Str) (sc : Scope) : Bool :=
  (match sc.kind with | .function => true | _ => false) && !sc.isCoroutine && !sc.isGenerator && decide N.Nodup && decide (N.take ps.length = ps) && ps.all (locC sc) &&
    sc.names.all (fun y => match y.2 with | .free => false | _ => true) && namesC sc N V GN
structure Names (X : Cx) (N : List Str) (V : List Nat) (GN : List Str) : Prop where
  vis : ∀ (i : Nat) (x : Str) (n : Nat), N[i]? = some x → V[i]? = some (n + 1) → Vis X.env.scope x ∧ (x == ("__debug__" : Str)) = false ∧ (x == ("__classdict__" : Str)) = false
  loc : ∀ (i : Nat) (x : Str), N[i]? = some x → V[i]? = some 2 → Loc X.env.scope x
  gl : ∀ (j : Nat) (x : Str), GN[j]? = some x → Gl X x ∧ (x == ("__debug__" : Str)) = false ∧ x ≠ "__name__"
theorem okName_d {x : Str} (h : okName x = true) : (x == ("__debug__" : Str)) = false ∧ (x == ("__classdict__" : Str)) = false ∧ x ≠ "__name__" := by
  unfold okName at h
  simp only [Bool.and_eq_true, decide_eq_true_eq] at h
  exact ⟨beq_eq_false_iff_ne.mpr h.1.1, beq_eq_false_iff_ne.mpr h.1.2, h.2⟩
theorem visC_d {sc : Scope} {x : Str} (h : visC sc x = true) : Vis sc x := by
  unfold visC at h
  split at h
  · exact .inl (by assumption)
  · exact .inr (.inl (by assumption))
  · exact .inr (.inr (by assumption))
  · cases h
theorem locC_d {sc : Scope} {x : Str} (h : locC sc x = true) : Loc sc x := by
  unfold locC at h
  split at h
  · exact .inl (by assumption)
  · exact .inr (by assumption)
  · cases h
theorem globC_d {sc : Scope} {x : Str} (h : globC sc x = true) : sc.names.lookup x = some .globalImplicit := by
  unfold globC at h
  split at h
  · assumption
  · cases h
theorem zip_mem {α β : Type} {l : List α} {m : List β} {i : Nat} {x : α} {y : β} (h : l[i]? = some x) (g : m[i]? = some y) : (x, y) ∈ l.zip m := by
  refine List.mem_of_getElem? (i := i) ?_
  rw [List.getElem?_zip_eq_some]
  exact ⟨h, g⟩
theorem names_of {X : Cx} {N : List Str} {V : List Nat} {GN : List Str} (h : namesC X.env.scope N V GN = true) : Names X N V GN := by
  unfold namesC at h
  simp only [Bool.and_eq_true, List.all_eq_true, Bool.or_eq_true, beq_iff_eq] at h
  obtain ⟨h1, h2⟩ := h
  refine ⟨fun i x n e1 e2 => ?_, fun i x e1 e2 => ?_, fun j x e => ?_⟩
  · rcases h1 _ (zip_mem e1 e2) with z | ⟨⟨z1, z2⟩, _⟩
    · cases z
    · exact ⟨visC_d z2, (okName_d z1).1, (okName_d z1).2.1⟩
  · rcases h1 _ (zip_mem e1 e2) with z | ⟨_, z | z⟩
    · cases z
    · cases z
    · exact locC_d z
  · obtain ⟨z1, z2⟩ := h2 x (List.mem_of_getElem? e)
    exact ⟨globC_d z2, (okName_d z1).1, (okName_d z1).2.2⟩

/-- the context of a body's code -/
structure Bd (X : Cx) (P : Program) (w : World) (K : PySem.W.Frag) (mg : Str → Option Value) (base : Heap) (sc : Scope) (N : List Str) (V : List Nat) (GN : List Str) (k : Nat) : Prop where
  eP : X.prog = P
  ew : X.w = w
  eK : X.K = K
  em : X.mg = mg
  eb : X.base = base
  eN : X.N = N
  eS : X.env.scope = sc
  nd : N.Nodup
  calm : X.calm = true
  room : Room k X.A
  gd : X.A.guards = some []
  nm : Names X N V GN
  hf : ∀ (i : Nat) (x : Str), N[i]? = some x → V[i]? = some 2 → X.fn x = true ∨ X.env.scope.names.lookup x = some .local
/-- .. of a def's own body (no comprehension's block): what try wants -/
structure Bt (X : Cx) : Prop where
  hs : X.stack = X.env :: X.outer
  hfr : X.env.frame = some X.env.locals
  ex : X.ex = []
def startD (N : List Str) (ds : List D) : Sd := ds.map some ++ List.replicate (N.length - ds.length) none
theorem sl_start {K : PySem.W.Frag} {D' : List Addr} {H : Hp} {N : List Str} {ds : List D} {vs : List V} (r : RDs K D' H ds vs) : Sl K D' H (startD N ds) (L2.start N vs) := by
  have hl := r.length
  refine ⟨?_, fun i d e => ?_⟩
  · unfold startD L2.start
    rw [List.length_append, List.length_append, List.length_map, List.length_map, List.length_replicate, List.length_replicate, hl]
  · unfold startD at e
    by_cases hi : i < ds.length
    · rw [List.getElem?_append_left (by simpa using hi), List.getElem?_map] at e
      cases q : ds[i]? with
      | none => rw [q] at e; cases e
      | some x =>
        rw [q] at e
        cases e
        obtain ⟨v, hv, rv⟩ := r.get q
        refine ⟨v, ?_, rv⟩
        unfold L2.start
        rw [List.getElem?_append_left (by rw [List.length_map, hl]; exact hi), List.getElem?_map, hv]
        rfl
    · rw [List.getElem?_append_right (by simpa using hi), List.getElem?_replicate] at e
      split at e <;> cases e
/-- a def's promise where no repr is under way -/
structure FnG (P : Program) (w : World) (K : PySem.W.Frag) (mg : Str → Option Value) (base : Heap) (k : Nat) (f : Addr) (fd : FuncData) (ps : List Str) (sp : L2.Sp) : Prop where
  len : ∀ vs H Q E, sp vs H Q E → vs.length = ps.length
  run : ∀ (A : Around) (outer : List Env) (s : Shared) (H : Hp) (args : Args) (us : List Value) (vs : List V) (Q : VK) (E : XK), A.guards = some [] → Room k A → Env0 P w K mg base A outer s H → BindsTo s fd args (ps.zip us) → Vals vs us → sp vs H Q E →
    codeAny (model P w) A (.call (.ref f) args) (CR (L2.CX P w) outer P w H s Q E) s
section
variable {P : Program} {w : World} {K : PySem.W.Frag} {mg : Str → Option Value} {base : Heap} {N : List Str} {V : List Nat} {GN : List Str}
theorem FnG.up {j k : Nat} {f : Addr} {fd : FuncData} {ps : List Str} {sp : L2.Sp} (F : FnG P w K mg base j f fd ps sp) (h : j ≤ k) : FnG P w K mg base k f fd ps sp :=
  ⟨F.len, fun A outer s H args us vs Q E hg hr => F.run A outer s H args us vs Q E hg (hr.mono h)⟩
theorem fnD {x qual : Str} {st : Stmt} {f : Addr} {fd : FuncData} {ps : List Str} {k : Nat} {sp : SpD} (F : Fun K x qual st f fd) (S : defC N V GN ps (defScope st) = true)
    (body : ∀ X, Bd X P w K mg base (defScope st) N V GN k → Bt X → ∀ ds Gs Qd Rd, ds.length = ps.length → sp ds Gs Qd Rd → SsD X (defBody st) (startD N ds) Gs { nx := fun _ G => Qd .non G, rt := Qd, ex := Rd }) :
    FnG P w K mg base (k + 1) f fd ps (toSp K ps.length sp) := by
  unfold defC at S
  simp only [Bool.and_eq_true, List.all_eq_true, decide_eq_true_eq, Bool.not_eq_true'] at S
  obtain ⟨⟨⟨⟨⟨⟨⟨s1, s2⟩, s3⟩, s4⟩, s5⟩, s6⟩, s7⟩, s8⟩ := S
  have sk : (defScope st).kind = .function := by
    split at s1
    · assumption
    · cases s1
  have fs : FnScope N ps (defScope st) := ⟨sk, s2, s3, s4, s5, fun y hy => locC_d (s6 y hy), fun y hy e => by
    have z := s7 y hy
    rw [e] at z
    cases z⟩
  obtain ⟨oc, od, kV, doc, pm, an, cdv, ct, osl, rfl, lk, hcd⟩ := F.ex
  refine ⟨fun vs H Q E h => h.1, fun A outer s H args us vs Q E hg hr e0 hb r h => ?_⟩
  have h0 := h
  obtain ⟨hn, ds, Gs, F', Qd, Rd, rd, ob, hsp, hQ, hE⟩ := h
  have toK : K.In s.heap := e0.mod.kin.keeps fun b o e => (e0.bs b o e).1
  have kinds : ∀ y ∈ ps.zip us, (defScope st).names.lookup y.1 = some .local ∨ ((defScope st).names.lookup y.1 = some .cell ∧ ((cellsFrom (s.heap.objs.size + 1) (defScope st).names []).lookup y.1).isSome = true) := by
    rintro ⟨n, v⟩ hy
    rcases fs.par n (List.of_mem_zip hy).1 with q | q
    · exact .inl q
    · exact .inr ⟨q, PySem.W.cellsFrom_some _ _ _ (.inl q)⟩
  refine codeAny_call_function hr.depth (toK _ _ lk) rfl s2 s3 rfl (PySem.W.codeRec_of toK hcd) (hb _ _ _ _ (wpAny_newFunctionEnv_cells sk kinds fun env he s1 ic => ?_))
  subst he
  refine ⟨(e0.mod.nolimit.keeps fun b o e => (e0.bs b o e).1).keeps ic.toInCall.keep, codeAny_func ?_⟩
  have I : Inv (cxOf (L2.CX P w) P w K mg base N qual (defScope st) f cdv A outer s H E) [] (L2.start N vs) H s1 := inv_start fs hr.hd e0 hn r ic
  have bt : Bt (cxOf (L2.CX P w) P w K mg base N qual (defScope st) f cdv A outer s H E) := ⟨rfl, rfl, rfl⟩
  have bd : Bd (cxOf (L2.CX P w) P w K mg base N qual (defScope st) f cdv A outer s H E) P w K mg base (defScope st) N V GN k := ⟨rfl, rfl, rfl, rfl, rfl, rfl, rfl, s4, rfl, hr.deeper _, hg, names_of s8, fun _ _ _ _ => .inl rfl⟩
  have go := body _ bd bt ds Gs Qd Rd (by rw [← rd.length]; exact hn) hsp
  have tk : Takes (cxOf (L2.CX P w) P w K mg base N qual (defScope st) f cdv A outer s H E) (fun c d _ H' => E c d H') := takes_of rfl rfl rfl rfl
  have po : PassesOwn (model P w) (cxOf (L2.CX P w) P w K mg base N qual (defScope st) f cdv A outer s H E).A (cxOf (L2.CX P w) P w K mg base N qual (defScope st) f cdv A outer s H E).env (cxOf (L2.CX P w) P w K mg base N qual (defScope st) f cdv A outer s H E).xe := passes_of rfl
  have run := (go [] (cxOf (L2.CX P w) P w K mg base N qual (defScope st) f cdv A outer s H E).xe E F' (L2.start N vs) H ⟨tk, po⟩ hE ob (sl_start rd)) [] s1 I
  refine wpAny_mono run (fun fl s' hs => ?_) fun e s' hs => hs
  have fin : ∀ {σ' : L2.St} {H' : Hp} {v : L2.V} {u : Value}, Inv (cxOf (L2.CX P w) P w K mg base N qual (defScope st) f cdv A outer s H E) [] σ' H' s' → RelV v u → Post K F' Gs H Qd v H' → CE outer P w H s Q u s' :=
    fun J rv q => ⟨_, _, J.os, J.bare, J.base, J.hok, rv, hQ _ _ q⟩
  cases fl with
  | ret u =>
    obtain ⟨v, σ', H', J, rv, q⟩ := hs
    exact fin J rv q
  | next =>
    obtain ⟨σ', H', J, σd', Gs', ob', k', _, q⟩ := hs
    exact fin (v := L2.V.non) (u := Value.none) J rfl ⟨.non, Gs', ob', k', rfl, q⟩
  | brk =>
    obtain ⟨_, _, _, _, _, _, _, _, q⟩ := hs
    exact False.elim q
  | cont =>
    obtain ⟨_, _, _, _, _, _, _, _, q⟩ := hs
    exact False.elim q
end
end Dl
namespace Dl
open PySem PySem.Spec PyProof.Rows L2
section
variable {X : Cx} {P : Program} {w : World} {K : PySem.W.Frag} {mg : Str → Option Value} {base : Heap} {sc : Scope} {N : List Str} {Vs : List Nat} {GN : List Str} {k : Nat}
variable {σd : Sd} {Gs : Pt} {Q : QD} {R : RX} {e a b c : Expr} {es : List Expr} {pos : Pos}

/-! ### names, constants -/
theorem e_var {i n : Nat} {x : Str} {d : D} (B : Bd X P w K mg base sc N Vs GN k) (hN : N[i]? = some x) (hV : Vs[i]? = some (n + 1)) (h : σd[i]? = some (some d)) (q : Q d Gs) : EvD X (.Name x pos) σd Gs Q R := by
  intro pn xe E F σ H wh hE ob sl
  obtain ⟨h1, h2, h3⟩ := B.nm.vis i x n hN hV
  obtain ⟨v, e, r⟩ := sl.2 i d h
  exact (pe_var (X := X.tr pn xe) (i := i) (by rw [show (X.tr pn xe).N = N from B.eN]; exact hN) h1 h2 h3).get ⟨v, e, Post.of ob Keep.refl r q⟩
theorem e_int {i : Int} {j : Nat} (q : Q (.int i) Gs) : EvD X (.Constant (.int i) j pos) σd Gs Q R := fun pn xe E F σ H wh hE ob sl =>
  (pe_int (X := X.tr pn xe)).get (Post.of (d := .int i) ob Keep.refl rfl q)
theorem e_bl {i : Bool} {j : Nat} (q : Q (.bl i) Gs) : EvD X (.Constant (.bool i) j pos) σd Gs Q R := fun pn xe E F σ H wh hE ob sl =>
  (pe_bl (X := X.tr pn xe)).get (Post.of (d := .bl i) ob Keep.refl rfl q)
theorem e_non {j : Nat} (q : Q .non Gs) : EvD X (.Constant .none j pos) σd Gs Q R := fun pn xe E F σ H wh hE ob sl =>
  (pe_non (X := X.tr pn xe)).get (Post.of (d := .non) ob Keep.refl rfl q)
theorem e_str {s : String} {j : Nat} (q : Q (.str (Str.ofString s)) Gs) : EvD X (.Constant (.str s) j pos) σd Gs Q R := fun pn xe E F σ H wh hE ob sl =>
  (pe_str (X := X.tr pn xe)).get (Post.of (d := .str (Str.ofString s)) ob Keep.refl rfl q)
/-- a module's constant -/
def GV (K : PySem.W.Frag) (mg : Str → Option Value) (x : Str) (d : D) : Prop := ∃ u v, mg x = some u ∧ RelV v u ∧ ∀ N H, RD K N H d v
theorem e_glob {j : Nat} {x : Str} {d : D} (B : Bd X P w K mg base sc N Vs GN k) (g : GV K mg x d) (hG : GN[j]? = some x) (q : Q d Gs) : EvD X (.Name x pos) σd Gs Q R := by
  obtain ⟨u, v, h1, h2, h3⟩ := g
  intro pn xe E F σ H wh hE ob sl
  obtain ⟨g1, g2, _⟩ := B.nm.gl j x hG
  refine (pe_glob (X := X.tr pn xe) g1 (by rw [show (X.tr pn xe).mg = mg from B.em]; exact h1) h2 g2).get (Post.of ob Keep.refl ?_ q)
  have := B.eK
  subst this
  exact h3 _ _

/-! ### operators -/
def OpD (K : PySem.W.Frag) (r : R2) (x y : D) (Gs : Pt) (Q : QD) : Prop := ∀ F H vx vy, Ob K (tot Gs F) H → RD K (dm (tot Gs F)) H x vx → RD K (dm (tot Gs F)) H y vy → r vx vy H (Post K F Gs H Q)
def BinD (X : Cx) (op : Operator) (x y : D) (Gs : Pt) (Q : QD) : Prop := ∃ r : R2, (∀ pn xe, OpR (X.tr pn xe) (binaryOp op) r) ∧ OpD X.K r x y Gs Q
def CmpD (X : Cx) (op : CmpOp) (x y : D) (Gs : Pt) (Q : QD) : Prop := ∃ r : R2, (∀ pn xe, OpR (X.tr pn xe) (compareOp op) r) ∧ OpD X.K r x y Gs Q
def semO (X : Cx) (f : Value → Value → Sem Value) : R2 := fun x y H Q => ∀ (pins : List (Addr × Obj)) (s : Shared) (σ : L2.St) (v u : Value), Inv X pins σ H s → RelV x v → RelV y u → wpAny (model X.prog X.w) X.A (f v u) (EP X pins σ Q) X.xe s
theorem semO_self {f : Value → Value → Sem Value} : OpR X f (semO X f) := fun pins s σ H x y v u Q I rx ry h => h pins s σ v u I rx ry
theorem semO_get {f : Value → Value → Sem Value} {r : R2} (h : OpR X f r) {x y : V} {H : Hp} {Q : VK} (q : r x y H Q) : semO X f x y H Q := fun pins s σ v u I rx ry => h pins s σ H x y v u Q I rx ry q
theorem semO_imp {f : Value → Value → Sem Value} {x y : V} {H : Hp} {Q Q' : VK} (h : semO X f x y H Q) (k : ∀ v H', Q v H' → Q' v H') : semO X f x y H Q' := fun pins s σ v u I rx ry =>
  thn (h pins s σ v u I rx ry) fun z s' ⟨d, H', I', r, q⟩ => ⟨d, H', I', r, k d H' q⟩
theorem e_bin {op : Operator} (h : EvD X a σd Gs (fun x G1 => EvD X b σd G1 (fun y G2 => BinD X op x y G2 Q) R) R) : EvD X (.BinOp a op b pos) σd Gs Q R := by
  intro pn xe E F σ H wh hE ob sl
  refine (pe_op (X := X.tr pn xe) semO_self PE.self PE.self).get ?_
  refine h.go wh hE Keep.refl ob sl fun v H1 x G1 ob1 k1 _ sl1 rx h1 => ?_
  refine h1.go wh hE k1 ob1 sl1 fun u H2 y G2 ob2 k2 k12 sl2 ry ⟨r, hr, ho⟩ => ?_
  exact semO_imp (semO_get (hr pn xe) (ho F H2 v u ob2 (RD.keep k12 _ _ rx) ry)) fun _ _ p => p.trans k2
theorem e_cmp {op : CmpOp} (h : EvD X a σd Gs (fun x G1 => EvD X b σd G1 (fun y G2 => CmpD X op x y G2 Q) R) R) (hm : behindInMarks op b = false := by first | exact nomark _ | rfl) : EvD X (.Compare a [op] [b] pos) σd Gs Q R := by
  intro pn xe E F σ H wh hE ob sl
  refine (pe_cmpR (X := X.tr pn xe) semO_self PE.self PE.self hm).get ?_
  refine h.go wh hE Keep.refl ob sl fun v H1 x G1 ob1 k1 _ sl1 rx h1 => ?_
  refine h1.go wh hE k1 ob1 sl1 fun u H2 y G2 ob2 k2 k12 sl2 ry ⟨r, hr, ho⟩ => ?_
  exact semO_imp (semO_get (hr pn xe) (ho F H2 v u ob2 (RD.keep k12 _ _ rx) ry)) fun _ _ p => p.trans k2
def QB (Q : QT) : QD := fun d G => ∃ b, d = .bl b ∧ Q b G
theorem t_cmp {Q : QT} {op : CmpOp} (h : EvD X a σd Gs (fun x G1 => EvD X b σd G1 (fun y G2 => CmpD X op x y G2 (QB Q)) R) R) (hm : behindInMarks op b = false := by first | exact nomark _ | rfl) : EvT X (.Compare a [op] [b] pos) σd Gs Q R := by
  intro pn xe E F σ H wh hE ob sl
  refine (pt_cmpR (X := X.tr pn xe) semO_self PE.self PE.self hm).get ?_
  refine h.go wh hE Keep.refl ob sl fun v H1 x G1 ob1 k1 _ sl1 rx h1 => ?_
  refine h1.go wh hE k1 ob1 sl1 fun u H2 y G2 ob2 k2 k12 sl2 ry ⟨r, hr, ho⟩ => ?_
  refine semO_imp (semO_get (hr pn xe) (ho F H2 v u ob2 (RD.keep k12 _ _ rx) ry)) fun z H3 p => ?_
  obtain ⟨d, G3, ob3, k3, rd, b', rfl, q⟩ := p
  exact ⟨b', rd, G3, ob3, k2.trans k3, q⟩
/-- a op b op' c -/
theorem e_chain {op op' : CmpOp} (B : Bd X P w K mg base sc N Vs GN k)
    (h : EvD X a σd Gs (fun x G1 => EvD X b σd G1 (fun y G2 => CmpD X op x y G2 (fun z G3 => ∃ t, z = .bl t ∧ if t = true then EvD X c σd G3 (fun u G4 => CmpD X op' y u G4 Q) R else Q (.bl false) G3)) R) R)
    (hm : lastMarks [op, op'] [b, c] = false := by with_unfolding_all rfl) : EvD X (.Compare a [op, op'] [b, c] pos) σd Gs Q R := by
  intro pn xe E F σ H wh hE ob sl
  refine (pe_chain (X := X.tr pn xe) semO_self semO_self PE.self PE.self PE.self hm).get ?_
  refine h.go wh hE Keep.refl ob sl fun v H1 x G1 ob1 k1 _ sl1 rx h1 => ?_
  refine h1.go wh hE k1 ob1 sl1 fun u H2 y G2 ob2 k2 k12 sl2 ry ⟨r, hr, ho⟩ => ?_
  refine semO_imp (semO_get (hr pn xe) (ho F H2 v u ob2 (RD.keep k12 _ _ rx) ry)) fun z H3 p => ?_
  obtain ⟨d, G3, ob3, k3, rd, t, rfl, q⟩ := p
  refine ⟨t, rd, ?_⟩
  cases t with
  | true =>
    rw [if_pos rfl] at q ⊢
    refine q.go wh hE (k2.trans k3) ob3 (sl2.keep k3) fun u4 H4 y4 G4 ob4 k4 k34 sl4 r4 ⟨r', hr', ho'⟩ => ?_
    exact semO_imp (semO_get (hr' pn xe) (ho' F H4 u u4 ob4 (RD.keep (k3.trans k34) _ _ ry) r4)) fun _ _ p => p.trans k4
  | false =>
    rw [if_neg Bool.false_ne_true] at q ⊢
    exact Post.of (d := .bl false) ob3 (k2.trans k3) rfl q
end
end Dl
namespace Dl
open PySem PySem.Spec PyProof.Rows L2
section
variable {X : Cx} {P : Program} {w : World} {K : PySem.W.Frag} {mg : Str → Option Value} {base : Heap} {sc : Scope} {N : List Str} {Vs : List Nat} {GN : List Str} {k : Nat}
variable {σd : Sd} {Gs : Pt} {Q : QD} {R : RX} {e a b c o : Expr} {es rest : List Expr} {pos p2 apos cpos : Pos}

/-! ### tests -/
def TruD (K : PySem.W.Frag) (x : D) (Gs : Pt) (t : Bool) : Prop := ∀ F H vx, Ob K (tot Gs F) H → RD K (dm (tot Gs F)) H x vx → TruV K vx H t
/-- an expression by its truth -/
theorem t_val {Q : QT} (h : EvD X a σd Gs (fun x G => ∃ t, TruD X.K x G t ∧ Q t G) R) (he : ∀ whole, isTrue a X.env whole = (do let v ← whole; standAt a.pos; holding [v] (truthy v)) := by intro _; rfl) : EvT X a σd Gs Q R := by
  intro pn xe E F σ H wh hE ob sl
  refine (pt_truth (X := X.tr pn xe) PE.self he).get ?_
  refine h.go wh hE Keep.refl ob sl fun v H1 x G1 ob1 k1 _ sl1 rx ⟨t, ht, q⟩ => ?_
  exact ⟨t, ht F H1 v ob1 rx, G1, ob1, k1, q⟩
theorem tru_bl {Q : QT} {t : Bool} (q : Q t Gs) : ∃ u, TruD K (.bl t) Gs u ∧ Q u Gs := ⟨t, fun F H vx _ r => by cases (show vx = .bl t from r); rfl, q⟩
theorem tru_str {Q : QT} {x : Str} (hz : x.length ≤ sizeLine) (q : Q ((x.length : Int) != 0) Gs) : ∃ u, TruD K (.str x) Gs u ∧ Q u Gs := ⟨_, fun F H vx _ r => by cases (show vx = .str x from r); exact ⟨hz, rfl⟩, q⟩
theorem tru_int {Q : QT} {i : Int} (q : Q (i != 0) Gs) : ∃ u, TruD K (.int i) Gs u ∧ Q u Gs := ⟨_, fun F H vx _ r => by cases (show vx = .int i from r); rfl, q⟩
theorem tru_non {Q : QT} (q : Q false Gs) : ∃ u, TruD K .non Gs u ∧ Q u Gs := ⟨_, fun F H vx _ r => by cases (show vx = .non from r); rfl, q⟩
theorem emp_eq {α β : Type} {l : List α} {m : List β} (h : l.length = m.length) : (!l.isEmpty) = !m.isEmpty := by
  cases l <;> cases m <;> first | rfl | cases h
theorem tru_lst {Q : QT} {ds : List D} (q : Q (!ds.isEmpty) Gs) : ∃ u, TruD K (.lst ds) Gs u ∧ Q u Gs := ⟨_, fun F H vx _ r => by
  obtain ⟨a, vs, rfl, n, t, r⟩ := r
  exact .inl ⟨vs, .inl (.inl t), emp_eq r.length.symm⟩, q⟩
theorem tup_sq {N : List Addr} {H : Hp} {ds : List D} {v : V} (r : RD K N H (.tup ds) v) : ∃ a vs, v = .ref a ∧ SqT K H a vs ∧ RDs K N H ds vs := by
  obtain ⟨a, vs, e, t, r⟩ := r
  refine ⟨a, vs, e, ?_, r⟩
  rcases t with ⟨_, t⟩ | t
  · exact .inl t
  · exact .inr t
theorem tru_tup {Q : QT} {ds : List D} (q : Q (!ds.isEmpty) Gs) : ∃ u, TruD K (.tup ds) Gs u ∧ Q u Gs := ⟨_, fun F H vx _ r => by
  obtain ⟨a, vs, rfl, t, r⟩ := tup_sq r
  exact .inr (.inl ⟨vs, t, emp_eq r.length.symm⟩), q⟩
theorem tru_own {Q : QT} {p : Addr} {ds : List D} (h : Has Gs p (.lst ds)) (q : Q (!ds.isEmpty) Gs) : ∃ u, TruD K (.ref p) Gs u ∧ Q u Gs := ⟨_, fun F H vx ob r => by
  cases (show vx = .ref p from r)
  obtain ⟨o, e, vs, rfl, r⟩ := ob.get h
  exact .inl ⟨vs, .inl (.inl e), emp_eq r.length.symm⟩, q⟩
theorem kd_len {κ : Type} {N : List Addr} {H : Hp} : ∀ {l : List (κ × D)} {m : List (κ × V)}, KD K N H l m → m.length = l.length
  | [], _, h => by cases (show _ = [] from h); rfl
  | (_, _) :: r, _, h => by
    obtain ⟨v, r', rfl, _, h2⟩ := h
    show r'.length + 1 = r.length + 1
    rw [kd_len h2]
theorem tru_dct {Q : QT} {p : Addr} {kvs : List (Key × D)} (h : Has Gs p (.dK kvs)) (q : Q (!kvs.isEmpty) Gs) : ∃ u, TruD K (.ref p) Gs u ∧ Q u Gs := ⟨_, fun F H vx ob r => by
  cases (show vx = .ref p from r)
  obtain ⟨o, e, kv, rfl, r⟩ := ob.get h
  exact .inr (.inr ⟨kv, e, emp_eq (kd_len r).symm⟩), q⟩

theorem t_not {Q : QT} (h : EvT X a σd Gs (fun t G => Q (!t) G) R) : EvT X (.UnaryOp .Not a pos) σd Gs Q R := by
  intro pn xe E F σ H wh hE ob sl
  refine (pt_not (X := X.tr pn xe) PT.self).get ?_
  exact h.go wh hE Keep.refl ob sl fun v H1 G1 ob1 k1 _ sl1 q => ⟨G1, ob1, k1, q⟩
theorem w_and1 {Q : QT} (h : EvT X a σd Gs Q R) : EvW X (.BoolOp .And [a] pos) σd Gs Q R := by
  intro pn xe E F σ H wh hE ob sl
  exact (pw_and1 (X := X.tr pn xe) PT.self).get (h pn xe E F σ H wh hE ob sl)
theorem w_or1 {Q : QT} (h : EvT X a σd Gs Q R) : EvW X (.BoolOp .Or [a] pos) σd Gs Q R := by
  intro pn xe E F σ H wh hE ob sl
  exact (pw_or1 (X := X.tr pn xe) PT.self).get (h pn xe E F σ H wh hE ob sl)
theorem w_and {Q : QT} (h : EvT X a σd Gs (fun t G => (t = true → EvW X (.BoolOp .And (b :: rest) pos) σd G Q R) ∧ (t = false → Q false G)) R) : EvW X (.BoolOp .And (a :: b :: rest) pos) σd Gs Q R := by
  intro pn xe E F σ H wh hE ob sl
  refine (pw_and (X := X.tr pn xe) PT.self PW.self).get ?_
  refine h.go wh hE Keep.refl ob sl fun v H1 G1 ob1 k1 _ sl1 q => ?_
  cases v with
  | true =>
    rw [if_pos rfl]
    exact (q.1 rfl).go wh hE k1 ob1 sl1 fun v H2 G2 ob2 k2 _ sl2 q => ⟨G2, ob2, k2, q⟩
  | false =>
    rw [if_neg Bool.false_ne_true]
    exact ⟨G1, ob1, k1, q.2 rfl⟩
theorem w_or {Q : QT} (h : EvT X a σd Gs (fun t G => (t = true → Q true G) ∧ (t = false → EvW X (.BoolOp .Or (b :: rest) pos) σd G Q R)) R) : EvW X (.BoolOp .Or (a :: b :: rest) pos) σd Gs Q R := by
  intro pn xe E F σ H wh hE ob sl
  refine (pw_or (X := X.tr pn xe) PT.self PW.self).get ?_
  refine h.go wh hE Keep.refl ob sl fun v H1 G1 ob1 k1 _ sl1 q => ?_
  cases v with
  | true =>
    rw [if_pos rfl]
    exact ⟨G1, ob1, k1, q.1 rfl⟩
  | false =>
    rw [if_neg Bool.false_ne_true]
    exact (q.2 rfl).go wh hE k1 ob1 sl1 fun v H2 G2 ob2 k2 _ sl2 q => ⟨G2, ob2, k2, q⟩
theorem t_w {Q : QT} (h : EvW X a σd Gs Q R) : EvT X a σd Gs Q R := by
  intro pn xe E F σ H wh hE ob sl
  exact (PW.pt (PW.self (X := X.tr pn xe))).get (h pn xe E F σ H wh hE ob sl)
/-- and, or, not as values: bools -/
theorem e_one {op : BoolOp} (h : EvD X a σd Gs Q R) : EvD X (.BoolOp op [a] pos) σd Gs Q R := by
  intro pn xe E F σ H wh hE ob sl
  exact (pe_one (X := X.tr pn xe) PE.self).get (h pn xe E F σ H wh hE ob sl)
theorem e_and (h : EvD X a σd Gs (fun x G => ∃ t, x = .bl t ∧ (t = true → EvD X (.BoolOp .And (b :: rest) pos) σd G Q R) ∧ (t = false → Q (.bl false) G)) R) : EvD X (.BoolOp .And (a :: b :: rest) pos) σd Gs Q R := by
  intro pn xe E F σ H wh hE ob sl
  refine (pe_and (X := X.tr pn xe) PE.self PE.self).get ?_
  refine h.go wh hE Keep.refl ob sl fun v H1 x G1 ob1 k1 _ sl1 rx ⟨t, et, q1, q2⟩ => ?_
  subst et
  cases (show v = .bl t from rx)
  refine ⟨t, rfl, ?_⟩
  cases t with
  | true =>
    rw [if_pos rfl]
    exact (q1 rfl).go wh hE k1 ob1 sl1 fun v H2 d G2 ob2 k2 _ sl2 r q => Post.of ob2 k2 r q
  | false =>
    rw [if_neg Bool.false_ne_true]
    exact Post.of (d := .bl false) ob1 k1 rfl (q2 rfl)
theorem e_or (h : EvD X a σd Gs (fun x G => ∃ t, x = .bl t ∧ (t = true → Q (.bl true) G) ∧ (t = false → EvD X (.BoolOp .Or (b :: rest) pos) σd G Q R)) R) : EvD X (.BoolOp .Or (a :: b :: rest) pos) σd Gs Q R := by
  intro pn xe E F σ H wh hE ob sl
  refine (pe_or (X := X.tr pn xe) PE.self PE.self).get ?_
  refine h.go wh hE Keep.refl ob sl fun v H1 x G1 ob1 k1 _ sl1 rx ⟨t, et, q1, q2⟩ => ?_
  subst et
  cases (show v = .bl t from rx)
  refine ⟨t, rfl, ?_⟩
  cases t with
  | true =>
    rw [if_pos rfl]
    exact Post.of (d := .bl true) ob1 k1 rfl (q1 rfl)
  | false =>
    rw [if_neg Bool.false_ne_true]
    exact (q2 rfl).go wh hE k1 ob1 sl1 fun v H2 d G2 ob2 k2 _ sl2 r q => Post.of ob2 k2 r q
theorem e_not (h : EvD X a σd Gs (fun x G => ∃ t, x = .bl t ∧ Q (.bl (!t)) G) R) : EvD X (.UnaryOp .Not a pos) σd Gs Q R := by
  intro pn xe E F σ H wh hE ob sl
  refine (pe_not (X := X.tr pn xe) PE.self).get ?_
  refine h.go wh hE Keep.refl ob sl fun v H1 x G1 ob1 k1 _ sl1 rx ⟨t, et, q⟩ => ?_
  subst et
  cases (show v = .bl t from rx)
  exact ⟨t, rfl, Post.of (d := .bl (!t)) ob1 k1 rfl q⟩
theorem e_if {c : Expr} (h : EvT X c σd Gs (fun t G => (t = true → EvD X a σd G Q R) ∧ (t = false → EvD X b σd G Q R)) R) : EvD X (.IfExp c a b pos) σd Gs Q R := by
  intro pn xe E F σ H wh hE ob sl
  refine (pe_ifExp (X := X.tr pn xe) PT.self PE.self PE.self).get ?_
  refine h.go wh hE Keep.refl ob sl fun v H1 G1 ob1 k1 _ sl1 q => ?_
  cases v with
  | true =>
    rw [if_pos rfl]
    exact (q.1 rfl).go wh hE k1 ob1 sl1 fun v H2 d G2 ob2 k2 _ sl2 r q => Post.of ob2 k2 r q
  | false =>
    rw [if_neg Bool.false_ne_true]
    exact (q.2 rfl).go wh hE k1 ob1 sl1 fun v H2 d G2 ob2 k2 _ sl2 r q => Post.of ob2 k2 r q
theorem e_neg (h : EvD X a σd Gs (fun x G => ∃ i, x = .int i ∧ Q (.int (-i)) G) R) : EvD X (.UnaryOp .USub a pos) σd Gs Q R := by
  intro pn xe E F σ H wh hE ob sl
  refine (pe_un (X := X.tr pn xe) un_neg PE.self).get ?_
  refine h.go wh hE Keep.refl ob sl fun v H1 x G1 ob1 k1 _ sl1 rx ⟨t, et, q⟩ => ?_
  subst et
  cases (show v = .int t from rx)
  exact ⟨t, rfl, Post.of (d := .int (-t)) ob1 k1 rfl q⟩

/-! ### argument lists -/
theorem a_nil {Q : QA} (q : Q [] Gs) : EvA X [] σd Gs Q R := fun pn xe E F σ H wh hE ob sl => (pa_nil (X := X.tr pn xe)).get ⟨[], Gs, ob, Keep.refl, rfl, q⟩
theorem a_cons {Q : QA} (h : EvD X e σd Gs (fun x G => EvA X es σd G (fun xs G2 => Q (x :: xs) G2) R) R) (hs : starEach (e :: es) X.env = (false, eval e X.env) :: starEach es X.env := by rfl) : EvA X (e :: es) σd Gs Q R := by
  intro pn xe E F σ H wh hE ob sl
  refine (pa_cons (X := X.tr pn xe) PE.self PA.self hs).get ?_
  refine h.go wh hE Keep.refl ob sl fun v H1 x G1 ob1 k1 _ sl1 rx h1 => ?_
  exact h1.go wh hE k1 ob1 sl1 fun vs H2 ds G2 ob2 k2 k12 sl2 r q => ⟨x :: ds, G2, ob2, k2, ⟨v, vs, rfl, RD.keep k12 _ _ rx, r⟩, q⟩
/-- tuples, lists that stay as they are -/
theorem e_tup {x1 : Nat} (h : EvA X es σd Gs (fun ds G => ds.length ≤ sizeLine ∧ Q (.tup ds) G) R) : EvD X (.Tuple es x1 pos) σd Gs Q R := by
  intro pn xe E F σ H wh hE ob sl
  refine (pe_tup (X := X.tr pn xe) PA.self).get ?_
  refine h.go wh hE Keep.refl ob sl fun vs H1 ds G1 ob1 k1 _ sl1 r ⟨hz, q⟩ => ?_
  refine ⟨by rw [r.length]; exact hz, fun p hp => ?_⟩
  refine Post.of (d := .tup ds) (ob1.newF hp) (k1.trans (Keep.newF hp)) ⟨p, vs, rfl, .inl ⟨ob1.mem_none hp, .inl upd_same⟩, RDs.keep (Keep.newF hp) _ _ r⟩ q
theorem e_lst (h : EvA X es σd Gs (fun ds G => ds.length ≤ sizeLine ∧ Q (.lst ds) G) R) : EvD X (.List es pos) σd Gs Q R := by
  intro pn xe E F σ H wh hE ob sl
  refine (pe_lst (X := X.tr pn xe) PA.self).get ?_
  refine h.go wh hE Keep.refl ob sl fun vs H1 ds G1 ob1 k1 _ sl1 r ⟨hz, q⟩ => ?_
  refine ⟨by rw [r.length]; exact hz, fun p hp => ?_⟩
  refine Post.of (d := .lst ds) (ob1.newF hp) (k1.trans (Keep.newF hp)) ⟨p, vs, rfl, ob1.mem_none hp, upd_same, RDs.keep (Keep.newF hp) _ _ r⟩ q
/-- a list that will change -/
theorem e_lstO (h : EvA X es σd Gs (fun ds G => ds.length ≤ sizeLine ∧ ∀ p, Q (.ref p) ([(p, .lst ds)] :: G)) R) : EvD X (.List es pos) σd Gs Q R := by
  intro pn xe E F σ H wh hE ob sl
  refine (pe_lst (X := X.tr pn xe) PA.self).get ?_
  refine h.go wh hE Keep.refl ob sl fun vs H1 ds G1 ob1 k1 _ sl1 r ⟨hz, q⟩ => ?_
  refine ⟨by rw [r.length]; exact hz, fun p hp => ?_⟩
  exact Post.of (d := .ref p) (ob1.new (m := .lst ds) hp ⟨vs, rfl, r⟩) (k1.trans (Keep.newO hp)) rfl (q p)
/-- {} that will change: keys ints and texts; tuples -/
theorem e_dct0 (q : ∀ p, Q (.ref p) ([(p, .dK [])] :: Gs)) : EvD X (.Dict [] [] pos) σd Gs Q R := by
  intro pn xe E F σ H wh hE ob sl
  exact (pe_dnewK (X := X.tr pn xe)).get fun p hp => Post.of (d := .ref p) (ob.new (m := .dK []) hp ⟨[], rfl, rfl⟩) (Keep.newO hp) rfl (q p)

/-! ### instances -/
/-- a class: its attributes in the order of __init__ -/
structure ClsI (K : PySem.W.Frag) (C : Addr) (ns : List Str) : Prop where
  cl : Cls K C
  nd : ns.Nodup
  na : ∀ f ∈ ns, NoAttr K C f
theorem lookup_zip {α : Type} {f : Str} : ∀ {ns : List Str} {vs : List α} {j : Nat} {v : α}, ns.Nodup → ns[j]? = some f → vs[j]? = some v → (ns.zip vs).lookup f = some v
  | [], _, _, _, _, h, _ => by simp at h
  | _ :: _, [], _, _, _, _, h => by simp at h
  | n :: ns, w :: vs, 0, v, nd, h1, h2 => by
    simp at h1 h2
    subst h1 h2
    simp [List.lookup]
  | n :: ns, w :: vs, j + 1, v, nd, h1, h2 => by
    have hn : (f == n) = false := by
      rw [beq_eq_false_iff_ne]
      rintro rfl
      exact (List.nodup_cons.mp nd).1 (List.mem_of_getElem? (by simpa using h1))
    show List.lookup f ((n, w) :: ns.zip vs) = some v
    rw [List.lookup_cons, hn]
    exact lookup_zip (j := j) (List.nodup_cons.mp nd).2 (by simpa using h1) (by simpa using h2)
theorem lookup_none {α : Type} {f : Str} : ∀ {ns : List Str} {vs : List α}, f ∉ ns → (ns.zip vs).lookup f = none
  | [], _, _ => rfl
  | _ :: _, [], _ => rfl
  | n :: ns, w :: vs, h => by
    have hn : (f == n) = false := by
      rw [beq_eq_false_iff_ne]
      rintro rfl
      exact h List.mem_cons_self
    show List.lookup f ((n, w) :: ns.zip vs) = none
    rw [List.lookup_cons, hn]
    exact lookup_none fun z => h (List.mem_cons_of_mem _ z)
theorem putF_cons (f g : Str) (v u : V) (fs : List (Str × V)) : putF f v ((g, u) :: fs) = if g = f then (g, v) :: fs else (g, u) :: putF f v fs := by
  rfl
theorem putF_zip {f : Str} {v : V} : ∀ {ns : List Str} {vs : List V} {j : Nat}, ns.Nodup → ns[j]? = some f → j < vs.length → putF f v (ns.zip vs) = ns.zip (vs.set j v)
  | [], _, _, _, h, _ => by simp at h
  | _ :: _, [], _, _, _, h => by simp at h
  | n :: ns, w :: vs, 0, nd, h1, _ => by
    simp at h1
    subst h1
    show putF n v ((n, w) :: ns.zip vs) = _
    rw [putF_cons, if_pos rfl]
    rfl
  | n :: ns, w :: vs, j + 1, nd, h1, h2 => by
    have hn : ¬ n = f := by
      rintro rfl
      exact (List.nodup_cons.mp nd).1 (List.mem_of_getElem? (by simpa using h1))
    show putF f v ((n, w) :: ns.zip vs) = (n, w) :: ns.zip (vs.set j v)
    rw [putF_cons, if_neg hn, putF_zip (j := j) (List.nodup_cons.mp nd).2 (by simpa using h1) (by simpa using h2)]
theorem putF_new {f : Str} {v : V} : ∀ {ns : List Str} {vs : List V}, f ∉ ns → ns.length = vs.length → putF f v (ns.zip vs) = (ns ++ [f]).zip (vs ++ [v])
  | [], [], _, _ => rfl
  | n :: ns, w :: vs, h, hl => by
    have hn : ¬ n = f := by
      rintro rfl
      exact h List.mem_cons_self
    show putF f v ((n, w) :: ns.zip vs) = (n, w) :: (ns ++ [f]).zip (vs ++ [v])
    rw [putF_cons, if_neg hn, putF_new (fun z => h (List.mem_cons_of_mem _ z)) (by simpa using hl)]
/-- x.f -/
def FldD (K : PySem.W.Frag) (x : D) (f : Str) (Gs : Pt) (Q : QD) : Prop := ∀ F H vx, Ob K (tot Gs F) H → RD K (dm (tot Gs F)) H x vx →
  ∃ a C dx fs v, vx = .ref a ∧ H a = some (.ins C dx fs) ∧ Cls K C ∧ NoAttr K C f ∧ fs.lookup f = some v ∧ Post K F Gs H Q v H
theorem e_fld {f : Str} (h : EvD X o σd Gs (fun x G => FldD X.K x f G Q) R) (hb : attributeBase o f X.env (eval o X.env) = eval o X.env := by rfl) : EvD X (.Attribute o f pos) σd Gs Q R := by
  intro pn xe E F σ H wh hE ob sl
  refine (pe_fld (X := X.tr pn xe) PE.self hb).get ?_
  refine h.go wh hE Keep.refl ob sl fun v H1 x G1 ob1 k1 _ sl1 rx h1 => ?_
  obtain ⟨a, C, dx, fs, v', e1, e2, e3, e4, e5, p⟩ := h1 F H1 v ob1 rx
  exact ⟨a, C, dx, fs, v', e1, e2, e3, e4, e5, p.trans k1⟩
theorem fld_own {p C : Addr} {ns : List Str} {ds : List D} {f : Str} {d : D} (j : Nat) (T : ClsI K C ns) (h : Has Gs p (.ins C ns ds)) (hj : ns[j]? = some f) (hd : ds[j]? = some d) (q : Q d Gs) : FldD K (.ref p) f Gs Q := by
  intro F H vx ob r
  cases (show vx = .ref p from r)
  obtain ⟨o, e, dx, vs, rfl, hl, rs⟩ := ob.get h
  obtain ⟨v, hv, rv⟩ := rs.get hd
  exact ⟨p, C, dx, _, v, rfl, e, T.cl, T.na f (List.mem_of_getElem? hj), lookup_zip T.nd hj hv, Post.of ob Keep.refl rv q⟩
theorem fld_frz {C : Addr} {ns : List Str} {ds : List D} {f : Str} {d : D} (j : Nat) (T : ClsI K C ns) (hj : ns[j]? = some f) (hd : ds[j]? = some d) (q : Q d Gs) : FldD K (.ins C ns ds) f Gs Q := by
  intro F H vx ob r
  obtain ⟨a, dx, vs, rfl, n, e, hl, rs⟩ := r
  obtain ⟨v, hv, rv⟩ := rs.get hd
  exact ⟨a, C, dx, _, v, rfl, e, T.cl, T.na f (List.mem_of_getElem? hj), lookup_zip T.nd hj hv, Post.of ob Keep.refl rv q⟩
end
end Dl
namespace Dl
open PySem PySem.Spec PyProof.Rows L2
section
variable {X : Cx} {P : Program} {w : World} {K : PySem.W.Frag} {mg : Str → Option Value} {base : Heap} {sc : Scope} {N : List Str} {Vs : List Nat} {GN : List Str} {k : Nat}
variable {σd : Sd} {Gs : Pt} {Q : QD} {R : RX} {e a b c o : Expr} {es rest : List Expr} {pos p2 apos cpos : Pos}

/-! ### subscripts -/
def semI (X : Cx) : R2 := fun x y H Q => ∀ (value slice : Expr) (pins : List (Addr × Obj)) (s : Shared) (σ : L2.St) (v u : Value), Inv X pins σ H s → RelV x v → RelV y u →
  subscripted slice false v u = operate [v, u] (getItem v u) → wpAny (model X.prog X.w) X.A (subscriptTail value slice v u) (EP X pins σ Q) X.xe s
theorem semI_self : IxR X (semI X) := fun value slice pins s σ H x y v u Q I rx ry h hs => h value slice pins s σ v u I rx ry hs
theorem semI_get {r : R2} (h : IxR X r) {x y : V} {H : Hp} {Q : VK} (q : r x y H Q) : semI X x y H Q := fun value slice pins s σ v u I rx ry hs => h value slice pins s σ H x y v u Q I rx ry q hs
theorem semI_imp {x y : V} {H : Hp} {Q Q' : VK} (h : semI X x y H Q) (k : ∀ v H', Q v H' → Q' v H') : semI X x y H Q' := fun value slice pins s σ v u I rx ry hs =>
  thn (h value slice pins s σ v u I rx ry hs) fun z s' ⟨d, H', I', r, q⟩ => ⟨d, H', I', r, k d H' q⟩
def IxD (X : Cx) (x y : D) (Gs : Pt) (Q : QD) : Prop := ∃ r : R2, (∀ pn xe, IxR (X.tr pn xe) r) ∧ OpD X.K r x y Gs Q
theorem e_ix (h : EvD X a σd Gs (fun x G1 => EvD X b σd G1 (fun y G2 => IxD X x y G2 Q) R) R) (hs : PlainIx b := by intro _ _; rfl) : EvD X (.Subscript a b pos) σd Gs Q R := by
  intro pn xe E F σ H wh hE ob sl
  refine (pe_ix (X := X.tr pn xe) semI_self PE.self PE.self hs).get ?_
  refine h.go wh hE Keep.refl ob sl fun v H1 x G1 ob1 k1 _ sl1 rx h1 => ?_
  refine h1.go wh hE k1 ob1 sl1 fun u H2 y G2 ob2 k2 k12 sl2 ry ⟨r, hr, ho⟩ => ?_
  exact semI_imp (semI_get (hr pn xe) (ho F H2 v u ob2 (RD.keep k12 _ _ rx) ry)) fun _ _ p => p.trans k2
/-- the item at a place -/
theorem atI_rel {N : List Addr} {H : Hp} {ds : List D} {vs : List V} {i : Int} {d : D} (r : RDs K N H ds vs) (h : atI ds i = some d) : ∃ v, atI vs i = some v ∧ RD K N H d v := by
  unfold atI at h ⊢
  rw [r.length]
  cases e : ixN ds.length i with
  | none => rw [e] at h; cases h
  | some j =>
    rw [e] at h
    exact r.get h
theorem ix_lst {ds : List D} {i : Int} {d : D} (h : atI ds i = some d) (q : Q d Gs) : IxD X (.lst ds) (.int i) Gs Q := by
  refine ⟨rIxL X.K, fun pn xe => ix_list, fun F H vx vy ob rx ry => ?_⟩
  obtain ⟨a, vs, rfl, n, t, r⟩ := rx
  cases (show vy = .int i from ry)
  obtain ⟨v, hv, rv⟩ := atI_rel r h
  exact ⟨a, vs, i, v, rfl, rfl, .inl (.inl t), hv, Post.of ob Keep.refl rv q⟩
theorem ix_own {p : Addr} {ds : List D} {i : Int} {d : D} (hp : Has Gs p (.lst ds)) (h : atI ds i = some d) (q : Q d Gs) : IxD X (.ref p) (.int i) Gs Q := by
  refine ⟨rIxL X.K, fun pn xe => ix_list, fun F H vx vy ob rx ry => ?_⟩
  cases (show vx = .ref p from rx)
  cases (show vy = .int i from ry)
  obtain ⟨o, e, vs, rfl, r⟩ := ob.get hp
  obtain ⟨v, hv, rv⟩ := atI_rel r h
  exact ⟨p, vs, i, v, rfl, rfl, .inl (.inl e), hv, Post.of ob Keep.refl rv q⟩
theorem ix_tp {ds : List D} {i : Int} {d : D} (h : atI ds i = some d) (q : Q d Gs) : IxD X (.tup ds) (.int i) Gs Q := by
  refine ⟨rIxT X.K, fun pn xe => ix_tup, fun F H vx vy ob rx ry => ?_⟩
  obtain ⟨a, vs, rfl, t, r⟩ := tup_sq rx
  cases (show vy = .int i from ry)
  obtain ⟨v, hv, rv⟩ := atI_rel r h
  exact ⟨a, vs, i, v, rfl, rfl, t, hv, Post.of ob Keep.refl rv q⟩
theorem scr_sq {N : List Addr} {H : Hp} {ns : List Int} {v : V} (r : RD K N H (.scr ns) v) : ∃ a, v = .ref a ∧ SqL K H a (ns.map V.int) := by
  obtain ⟨a, e, t⟩ := r
  refine ⟨a, e, ?_⟩
  rcases t with ⟨_, t⟩ | t
  · exact .inl t
  · exact .inr t
theorem ix_scr {ns : List Int} {i : Int} {d : Int} (h : atI ns i = some d) (q : Q (.int d) Gs) : IxD X (.scr ns) (.int i) Gs Q := by
  refine ⟨rIxL X.K, fun pn xe => ix_list, fun F H vx vy ob rx ry => ?_⟩
  obtain ⟨a, rfl, t⟩ := scr_sq rx
  cases (show vy = .int i from ry)
  have hv : atI (ns.map V.int) i = some (V.int d) := by
    unfold atI at h ⊢
    rw [List.length_map]
    cases e : ixN ns.length i with
    | none => rw [e] at h; cases h
    | some j =>
      rw [e] at h
      show (ns.map V.int)[j]? = _
      rw [List.getElem?_map, show ns[j]? = some d from h]
      rfl
  exact ⟨a, _, i, .int d, rfl, rfl, t, hv, Post.of (d := .int d) ob Keep.refl rfl q⟩
theorem ix_st {z : Str} {i : Int} {ch : Nat} (hz : z.length ≤ sizeLine) (h : atI z.cps.toList i = some ch) (q : Q (.str ⟨#[ch]⟩) Gs) : IxD X (.str z) (.int i) Gs Q := by
  refine ⟨rIxS, fun pn xe => ix_str, fun F H vx vy ob rx ry => ?_⟩
  cases (show vx = .str z from rx)
  cases (show vy = .int i from ry)
  exact ⟨z, i, ch, rfl, rfl, hz, h, Post.of (d := .str ⟨#[ch]⟩) ob Keep.refl rfl q⟩

/-! ### slices -/
def semSl (X : Cx) : V → Option Int → Option Int → Hp → VK → Prop := fun x lo hi H Q => ∀ (pins : List (Addr × Obj)) (s : Shared) (σ : L2.St) (v vl vu : Value) (sl : Addr), Inv X pins σ H s → RelV x v → s.heap.IsSliceOf sl vl vu .none → IsPart vl lo → IsPart vu hi →
    ∃ T id, typeLookup (.type T) "__getitem__" = pure (some (.builtin id)) ∧ s.TypeIs v T ∧ wpAny (model X.prog X.w) X.A (getItem v (.ref sl)) (EP X pins σ Q) X.xe s
theorem semSl_self : SlR X (semSl X) := fun pins s σ H x v vl vu lo hi sl Q I rx hs pl pu h => h pins s σ v vl vu sl I rx hs pl pu
theorem semSl_get {r : V → Option Int → Option Int → Hp → VK → Prop} (h : SlR X r) {x : V} {lo hi : Option Int} {H : Hp} {Q : VK} (q : r x lo hi H Q) : semSl X x lo hi H Q := fun pins s σ v vl vu sl I rx hs pl pu => h pins s σ H x v vl vu lo hi sl Q I rx hs pl pu q
theorem semSl_imp {x : V} {lo hi : Option Int} {H : Hp} {Q Q' : VK} (h : semSl X x lo hi H Q) (k : ∀ v H', Q v H' → Q' v H') : semSl X x lo hi H Q' := fun pins s σ v vl vu sl I rx hs pl pu => by
  obtain ⟨T, id, h1, h2, h3⟩ := h pins s σ v vl vu sl I rx hs pl pu
  exact ⟨T, id, h1, h2, thn h3 fun z s' ⟨d, H', I', r, q⟩ => ⟨d, H', I', r, k d H' q⟩⟩
def SliD (X : Cx) (x : D) (lo hi : Option Int) (Gs : Pt) (Q : QD) : Prop := ∃ r, (∀ pn xe, SlR (X.tr pn xe) r) ∧ ∀ F H vx, Ob X.K (tot Gs F) H → RD X.K (dm (tot Gs F)) H x vx → r vx lo hi H (Post X.K F Gs H Q)
/-- a part of a slice -/
def EvO (X : Cx) (e : Option Expr) (σd : Sd) (Gs : Pt) (Q : Option Int → Pt → Prop) (R : RX) : Prop :=
  ∀ pn xe E F σ H, Wh X pn xe E → (∀ c od H', Wx X.K F Gs H R c od H' → E c od H') → Ob X.K (tot Gs F) H → Sl X.K (dm (tot Gs F)) H σd σ →
    ∃ t, PO (X.tr pn xe) e t ∧ ∀ Qh : Option Int → Hp → Prop, (∀ o H' Gs', Ob X.K (tot Gs' F) H' → Keep (dm (tot Gs F)) H (dm (tot Gs' F)) H' → Q o Gs' → Qh o H') → t σ H Qh
theorem o_non {Q : Option Int → Pt → Prop} (q : Q none Gs) : EvO X none σd Gs Q R := fun pn xe E F σ H wh hE ob sl => ⟨_, po_none, fun Qh k => k none H Gs ob Keep.refl q⟩
theorem o_som {Q : Option Int → Pt → Prop} (h : EvD X e σd Gs (fun x G => ∃ i, x = .int i ∧ Q (some i) G) R) : EvO X (some e) σd Gs Q R := fun pn xe E F σ H wh hE ob sl => ⟨_, po_some PE.self, fun Qh k => by
  refine h.go wh hE Keep.refl ob sl fun v H1 x G1 ob1 k1 _ sl1 rx ⟨i, ei, q⟩ => ?_
  subst ei
  cases (show v = .int i from rx)
  exact ⟨i, rfl, k _ _ G1 ob1 k1 q⟩⟩
theorem e_sl {lo hi : Option Expr} (h : EvD X a σd Gs (fun x G1 => EvO X lo σd G1 (fun l G2 => EvO X hi σd G2 (fun u G3 => SliD X x l u G3 Q) R) R) R) : EvD X (.Subscript a (.Slice lo hi none p2) pos) σd Gs Q R := by
  intro pn xe E F σ H wh hE ob sl pins s I
  -- the readings of the parts hang on the state: the walk by hand
  refine Subscript_ (thn (h.go (Qh := fun v H' => ∃ x G1, Ob X.K (tot G1 F) H' ∧ Keep (dm (tot Gs F)) H (dm (tot G1 F)) H' ∧ Sl X.K (dm (tot G1 F)) H' σd σ ∧ RD X.K (dm (tot G1 F)) H' x v ∧ EvO X lo σd G1 (fun l G2 => EvO X hi σd G2 (fun u G3 => SliD X x l u G3 Q) R) R) wh hE Keep.refl ob sl (fun v H1 x G1 ob1 k1 _ sl1 rx h1 => ⟨x, G1, ob1, k1, sl1, rx, h1⟩) pins s I) fun v s1 ⟨vx, H1, I1, r1, x, G1, ob1, k1, sl1, rx, h1⟩ => ?_)
  obtain ⟨t1, p1, g1⟩ := h1 pn xe E F σ H1 wh (fun c od H' w => hE c od H' (w.trans k1)) ob1 sl1
  refine wpAny_Slice (thn (p1.run pins s1 σ H1 (fun l H' => ∃ G2, Ob X.K (tot G2 F) H' ∧ Keep (dm (tot G1 F)) H1 (dm (tot G2 F)) H' ∧ EvO X hi σd G2 (fun u G3 => SliD X x l u G3 Q) R) I1 (g1 _ fun l H' G2 ob2 k2 h2 => ⟨G2, ob2, k2, h2⟩)) fun vl s2 ⟨l, H2, I2, pl, G2, ob2, k2, h2⟩ => ?_)
  obtain ⟨t2, p2', g2⟩ := h2 pn xe E F σ H2 wh (fun c od H' w => hE c od H' (w.trans (k1.trans k2))) ob2 (sl1.keep k2)
  refine thn (p2'.run pins s2 σ H2 (fun u H' => ∃ G3, Ob X.K (tot G3 F) H' ∧ Keep (dm (tot G2 F)) H2 (dm (tot G3 F)) H' ∧ SliD X x l u G3 Q) I2 (g2 _ fun u H' G3 ob3 k3 h3 => ⟨G3, ob3, k3, h3⟩)) fun vu s3 ⟨u, H3, I3, pu, G3, ob3, k3, r, hr, h3⟩ => ?_
  rw [evalPart_none]
  refine wpAny_pure ?_
  have I4 : Inv (X.tr pn xe) pins σ H3 { s3 with heap := s3.heap.push { cls := .type "slice", data := .fields #[vl, vu, .none] } } := I3.kept (t' := s3.toks) fun b ob q => Heap.get?_push_of_some _ q
  have q3 := h3 F H3 vx ob3 (RD.keep (k2.trans k3) _ _ rx)
  obtain ⟨T, id, hT, ht, hg⟩ := hr pn xe pins { s3 with heap := s3.heap.push { cls := .type "slice", data := .fields #[vl, vu, .none] } } σ H3 vx v vl vu l u s3.heap.objs.size _ I4 r1 (Heap.IsSliceOf.new ..) pl pu q3
  show wpAny (model X.prog X.w) X.A (subscriptTail a (.Slice lo hi none p2) v (.ref s3.heap.objs.size)) (EP (X.tr pn xe) pins σ (Post X.K F Gs H Q)) xe { s3 with heap := s3.heap.push { cls := .type "slice", data := .fields #[vl, vu, .none] } }
  refine thn (tail_any (ops := [.ref s3.heap.objs.size, v]) ht hT hg (by with_unfolding_all rfl)) fun z s' ⟨d, H', I', r, q⟩ => ⟨d, H', I', r, q.trans (k1.trans (k2.trans k3))⟩
def cutD (xs : List D) (lo hi : Option Int) : List D := (xs.drop (HT.sIx xs.length 0 lo)).take (HT.sIx xs.length xs.length hi - HT.sIx xs.length 0 lo)
theorem cut_rel {N : List Addr} {H : Hp} {ds : List D} {vs : List V} (r : RDs K N H ds vs) (lo hi : Option Int) : RDs K N H (cutD ds lo hi) (cutV vs lo hi) := by
  unfold cutD cutV
  rw [r.length]
  exact (r.drop _).take _
theorem si_str {z : Str} {lo hi : Option Int} (hz : z.length ≤ sizeLine) (q : Q (.str (cutS z lo hi)) Gs) : SliD X (.str z) lo hi Gs Q := by
  refine ⟨rSlS, fun pn xe => sl_str, fun F H vx ob rx => ?_⟩
  cases (show vx = .str z from rx)
  exact ⟨z, rfl, hz, Post.of (d := .str (cutS z lo hi)) ob Keep.refl rfl q⟩
theorem si_lst {ds : List D} {lo hi : Option Int} (q : Q (.lst (cutD ds lo hi)) Gs) : SliD X (.lst ds) lo hi Gs Q := by
  refine ⟨rSlL X.K, fun pn xe => sl_list, fun F H vx ob rx => ?_⟩
  obtain ⟨a, vs, rfl, n, t, r⟩ := rx
  refine ⟨a, vs, rfl, .inl (.inl t), fun p hp => ?_⟩
  exact Post.of (d := .lst (cutD ds lo hi)) (ob.newF hp) (Keep.newF hp) ⟨p, _, rfl, ob.mem_none hp, upd_same, RDs.keep (Keep.newF hp) _ _ (cut_rel r lo hi)⟩ q
theorem si_own {p : Addr} {ds : List D} {lo hi : Option Int} (h : Has Gs p (.lst ds)) (q : Q (.lst (cutD ds lo hi)) Gs) : SliD X (.ref p) lo hi Gs Q := by
  refine ⟨rSlL X.K, fun pn xe => sl_list, fun F H vx ob rx => ?_⟩
  cases (show vx = .ref p from rx)
  obtain ⟨o, e, vs, rfl, r⟩ := ob.get h
  refine ⟨p, vs, rfl, .inl (.inl e), fun p' hp => ?_⟩
  exact Post.of (d := .lst (cutD ds lo hi)) (ob.newF hp) (Keep.newF hp) ⟨p', _, rfl, ob.mem_none hp, upd_same, RDs.keep (Keep.newF hp) _ _ (cut_rel r lo hi)⟩ q
theorem si_tup {ds : List D} {lo hi : Option Int} (hw : ¬ (HT.sIx ds.length 0 lo = 0 ∧ HT.sIx ds.length ds.length hi = ds.length)) (q : Q (.tup (cutD ds lo hi)) Gs) : SliD X (.tup ds) lo hi Gs Q := by
  refine ⟨rSlT X.K, fun pn xe => sl_tup, fun F H vx ob rx => ?_⟩
  obtain ⟨a, vs, rfl, t, r⟩ := tup_sq rx
  refine ⟨a, vs, rfl, t, by rw [r.length]; exact hw, fun p hp => ?_⟩
  exact Post.of (d := .tup (cutD ds lo hi)) (ob.newF hp) (Keep.newF hp) ⟨p, _, rfl, .inl ⟨ob.mem_none hp, .inl upd_same⟩, RDs.keep (Keep.newF hp) _ _ (cut_rel r lo hi)⟩ q

/-! ### calls of built-ins -/
def semC (X : Cx) (f : Value) : List V → Hp → VK → Prop := fun xs H Q => ∀ (pins : List (Addr × Obj)) (s : Shared) (σ : L2.St) (us : List Value), Inv X pins σ H s → Vals xs us → wpAny (model X.prog X.w) X.A (call f us) (EP X pins σ Q) X.xe s
theorem semC_self {f : Value} : CallR X f (semC X f) := fun pins s σ H xs us Q I r h => h pins s σ us I r
theorem semC_get {f : Value} {r : List V → Hp → VK → Prop} (h : CallR X f r) {xs : List V} {H : Hp} {Q : VK} (q : r xs H Q) : semC X f xs H Q := fun pins s σ us I rv => h pins s σ H xs us Q I rv q
theorem semC_imp {f : Value} {xs : List V} {H : Hp} {Q Q' : VK} (h : semC X f xs H Q) (k : ∀ v H', Q v H' → Q' v H') : semC X f xs H Q' := fun pins s σ us I rv =>
  thn (h pins s σ us I rv) fun z s' ⟨d, H', I', r, q⟩ => ⟨d, H', I', r, k d H' q⟩
def CalD (X : Cx) (f : Value) (ds : List D) (Gs : Pt) (Q : QD) : Prop := ∃ r, (∀ pn xe, CallR (X.tr pn xe) f r) ∧ ∀ F H vs, Ob X.K (tot Gs F) H → RDs X.K (dm (tot Gs F)) H ds vs → r vs H (Post X.K F Gs H Q)
theorem e_blt {x : Str} {p : Pos} {id : String} {j : Nat} (B : Bd X P w K mg base sc N Vs GN k) (hm : mg x = none) (hG : GN[j]? = some x) (hv : bootBuiltins x = some (.builtin id)) (h : EvA X (e :: es) σd Gs (fun ds G => CalD X (.builtin id) ds G Q) R)
    (he : starEach (e :: es) X.env = (false, eval e X.env) :: starEach es X.env := by rfl) (hpl : (backTo pos (starEach es X.env)).any (·.1) = false := by rfl) : EvD X (.Call (.Name x p) (e :: es) [] pos) σd Gs Q R := by
  intro pn xe E F σ H wh hE ob sl
  obtain ⟨g1, g2, g3⟩ := B.nm.gl j x hG
  refine (pe_callB (X := X.tr pn xe) semC_self g1 (by rw [show (X.tr pn xe).mg = mg from B.em]; exact hm) hv PA.self g3 g2 he hpl).get ?_
  refine h.go wh hE Keep.refl ob sl fun vs H1 ds G1 ob1 k1 _ sl1 rs ⟨r, hr, hc⟩ => ?_
  exact semC_imp (semC_get (hr pn xe) (hc F H1 vs ob1 rs)) fun _ _ p => p.trans k1
theorem e_bty {x : Str} {p : Pos} {T : String} {j : Nat} (B : Bd X P w K mg base sc N Vs GN k) (hm : mg x = none) (hG : GN[j]? = some x) (hv : bootBuiltins x = some (.type T)) (h : EvA X (e :: es) σd Gs (fun ds G => CalD X (.type T) ds G Q) R)
    (he : starEach (e :: es) X.env = (false, eval e X.env) :: starEach es X.env := by rfl) (hpl : (backTo pos (starEach es X.env)).any (·.1) = false := by rfl) : EvD X (.Call (.Name x p) (e :: es) [] pos) σd Gs Q R := by
  intro pn xe E F σ H wh hE ob sl
  obtain ⟨g1, g2, g3⟩ := B.nm.gl j x hG
  refine (pe_callTy (X := X.tr pn xe) semC_self g1 (by rw [show (X.tr pn xe).mg = mg from B.em]; exact hm) hv PA.self g3 g2 he hpl).get ?_
  refine h.go wh hE Keep.refl ob sl fun vs H1 ds G1 ob1 k1 _ sl1 rs ⟨r, hr, hc⟩ => ?_
  exact semC_imp (semC_get (hr pn xe) (hc F H1 vs ob1 rs)) fun _ _ p => p.trans k1

/-! ### methods of built-in types -/
def semM (X : Cx) (id : String) : V → List V → Hp → VK → Prop := fun x xs H Q => ∀ (pins : List (Addr × Obj)) (s : Shared) (σ : L2.St) (v : Value) (us : List Value), Inv X pins σ H s → RelV x v → Vals xs us → wpAny (model X.prog X.w) X.A (call (.builtin id) (v :: us)) (EP X pins σ Q) X.xe s
theorem semM_self {id : String} : MtR X id (semM X id) := fun pins s σ H x xs v us Q I rx rs h => h pins s σ v us I rx rs
theorem semM_get {id : String} {r : V → List V → Hp → VK → Prop} (h : MtR X id r) {x : V} {xs : List V} {H : Hp} {Q : VK} (q : r x xs H Q) : semM X id x xs H Q := fun pins s σ v us I rx rs => h pins s σ H x xs v us Q I rx rs q
theorem semM_imp {id : String} {x : V} {xs : List V} {H : Hp} {Q Q' : VK} (h : semM X id x xs H Q) (k : ∀ v H', Q v H' → Q' v H') : semM X id x xs H Q' := fun pins s σ v us I rx rs =>
  thn (h pins s σ v us I rx rs) fun z s' ⟨d, H', I', r, q⟩ => ⟨d, H', I', r, k d H' q⟩
def MetD (X : Cx) (id : String) (x : D) (ds : List D) (Gs : Pt) (Q : QD) : Prop := ∃ r, (∀ pn xe, MtR (X.tr pn xe) id r) ∧ ∀ F H vx vs, Ob X.K (tot Gs F) H → RD X.K (dm (tot Gs F)) H x vx → RDs X.K (dm (tot Gs F)) H ds vs → r vx vs H (Post X.K F Gs H Q)
/-- the type of x: by the hand layer, or a dict with tuple keys -/
def tyX (K : PySem.W.Frag) (T : String) (v : V) (H : Hp) : Prop := tyV K T v H ∨ (T = "dict" ∧ ∃ P w p xs ep, v = .ref p ∧ H p = some (.ext (Dx P w p xs ep))) ∨ (T = "dict" ∧ ∃ p kvs, v = .ref p ∧ Rd H p (.dK kvs))
theorem tyX_is {X : Cx} {pins : List (Addr × Obj)} {σ : L2.St} {H : Hp} {s : Shared} {T : String} {x : V} {v : Value} (I : Inv X pins σ H s) (r : RelV x v) (ty : tyX X.K T x H) :
    s.TypeIs v T ∧ ∀ a, v = .ref a → ∃ ob, s.heap.get? a = some ob ∧ ob.dict = none := by
  rcases ty with ty | ⟨rfl, P, w, p, xs, ep, rfl, e⟩ | ⟨rfl, p, kvs, rfl, e⟩
  · exact tyV_is I r ty
  · cases r
    obtain ⟨⟨o, es, h1, h2, _, _⟩, _⟩ := (show ObjOk X.prog X.w H s.heap p (.ext (Dx P w p xs ep)) from I.hok p _ e)
    refine ⟨⟨o, h1, h2.1⟩, fun a ea => ?_⟩
    cases ea
    exact ⟨o, h1, h2.2.1⟩
  · cases r
    obtain ⟨_, _, _, _, o, _, _, h1, h2, _⟩ := dk_rd I.hok e
    refine ⟨⟨o, h1, h2.1⟩, fun a ea => ?_⟩
    cases ea
    exact ⟨o, h1, h2.2.1⟩
def tBX (K : PySem.W.Frag) (T : String) (rm : V → List V → Hp → VK → Prop) (to : TE) (ta : TA) : TE := fun σ H Q => to σ H fun x H1 => tyX K T x H1 ∧ ta σ H1 fun vs H2 => rm x vs H2 Q
section
variable {r : V → List V → Hp → VK → Prop} {name : Str} {T id : String} {to : TE} {t : TA}
theorem pe_bx (pa : PlainAttrs T) (slot : Slot T name id) (hty : typeOf (.builtin id) = pure (.type "method_descriptor")) (hm : MtR X id r) (ho : PE X o to) (ha : PA X (e :: es) t)
    (hbase : attributeBase o name X.env (eval o X.env) = eval o X.env := by rfl)
    (hfew : ((backTo cpos (starEach (e :: es) X.env)).all (fun x => !x.1) && (backToKw cpos (keywordEach [] X.env)).all (fun x => x.1.isSome)
      && decide ((e :: es).length + ([] : List Keyword).length + (if ([] : List Keyword).isEmpty then 0 else 1) < 30)) = true := by rfl)
    (hline : (apos.endLine == cpos.line) = true := by rfl) (hs : starEach (e :: es) X.env = (false, eval e X.env) :: starEach es X.env := by rfl) (hplain : (backTo cpos (starEach es X.env)).any (·.1) = false := by rfl) :
    PE X (.Call (.Attribute o name apos) (e :: es) [] cpos) (tBX X.K T r to t) := by
  refine ⟨fun pins s σ H Q I h => ?_⟩
  refine wpAny_Call_method_late hbase hfew hline rfl (thn (ho.run pins s σ H _ I h) fun v s1 ⟨x, H1, I1, r1, ty, q1⟩ => ?_)
  obtain ⟨h1, h2⟩ := tyX_is I1 r1 ty
  refine ⟨T, id, pa, slot, hty, h1, h2, ?_⟩
  have hA := ha.run cpos pins s1 σ H1 _ I1 q1
  rw [hs] at hA ⊢
  refine Calls.callWith_builtin (by show (false || (backTo cpos (starEach es X.env)).any (·.1)) = false; rw [hplain] <;> rfl) (Calls.evalArgs_plain ?_)
  exact thn hA fun us s2 ⟨vs, H2, I2, r2, q2⟩ => hm pins s2 σ H2 x vs v us Q I2 r1 r2 q2
end
def tBX0 (K : PySem.W.Frag) (T : String) (rm : V → List V → Hp → VK → Prop) (to : TE) : TE := fun σ H Q => to σ H fun x H1 => tyX K T x H1 ∧ rm x [] H1 Q
theorem pe_bx0 {r : V → List V → Hp → VK → Prop} {name : Str} {T id : String} {to : TE} (pa : PlainAttrs T) (slot : Slot T name id) (hty : typeOf (.builtin id) = pure (.type "method_descriptor")) (hm : MtR X id r) (ho : PE X o to)
    (hbase : attributeBase o name X.env (eval o X.env) = eval o X.env := by rfl) (hline : (apos.endLine == cpos.line) = true := by rfl) : PE X (.Call (.Attribute o name apos) [] [] cpos) (tBX0 X.K T r to) := by
  refine ⟨fun pins s σ H Q I h => ?_⟩
  refine wpAny_Call_method0_late hbase hline (thn (ho.run pins s σ H _ I h) fun v s1 ⟨x, H1, I1, r1, ty, q1⟩ => ?_)
  obtain ⟨h1, h2⟩ := tyX_is I1 r1 ty
  exact ⟨T, id, pa, slot, hty, h1, h2, Calls.callWith_builtin rfl (PySem.evalArgs_none (hm pins s1 σ H1 x [] v [] Q I1 r1 .nil q1))⟩
def TyD (K : PySem.W.Frag) (T : String) (x : D) (Gs : Pt) : Prop := ∀ F H vx, Ob K (tot Gs F) H → RD K (dm (tot Gs F)) H x vx → tyX K T vx H
theorem ty_str {x : Str} : TyD K "str" (.str x) Gs := fun F H vx _ r => by cases (show vx = .str x from r); exact .inl rfl
theorem ty_lst {ds : List D} : TyD K "list" (.lst ds) Gs := fun F H vx _ r => by
  obtain ⟨a, vs, rfl, n, t, r⟩ := r
  refine .inl ?_
  exact .inl ⟨rfl, vs, .inl (.inl t)⟩
theorem ty_own {p : Addr} {ds : List D} (h : Has Gs p (.lst ds)) : TyD K "list" (.ref p) Gs := fun F H vx ob r => by
  cases (show vx = .ref p from r)
  obtain ⟨o, e, vs, rfl, r⟩ := ob.get h
  refine .inl ?_
  exact .inl ⟨rfl, vs, .inl (.inl e)⟩
theorem ty_dK {p : Addr} {kvs : List (Key × D)} (h : Has Gs p (.dK kvs)) : TyD K "dict" (.ref p) Gs := fun F H vx ob r => by
  cases (show vx = .ref p from r)
  obtain ⟨o, e, vs, rfl, r⟩ := ob.get h
  refine .inl ?_
  exact .inr (.inr (.inl ⟨rfl, .inl ⟨vs, e⟩⟩))
theorem ty_dct {kvs : List (Key × D)} : TyD K "dict" (.dct kvs) Gs := fun F H vx ob r => by
  obtain ⟨a, o, kv, rfl, n, e, r⟩ := r
  exact .inr (.inr ⟨rfl, a, kv, rfl, .inr ⟨o, e⟩⟩)
theorem ty_dT {p : Addr} {kvs : List (List Key × D)} (h : Has Gs p (.dT P w p kvs)) : TyD K "dict" (.ref p) Gs := fun F H vx ob r => by
  cases (show vx = .ref p from r)
  obtain ⟨o, e, xs, ep, rfl, _⟩ := ob.get h
  exact .inr (.inl ⟨rfl, P, w, p, xs, ep, rfl, e⟩)
theorem e_bm {name : Str} {T id : String} (pa : PlainAttrs T) (slot : Slot T name id) (hty : typeOf (.builtin id) = pure (.type "method_descriptor"))
    (h : EvD X o σd Gs (fun x G1 => TyD X.K T x G1 ∧ EvA X (e :: es) σd G1 (fun ds G2 => MetD X id x ds G2 Q) R) R)
    (hbase : attributeBase o name X.env (eval o X.env) = eval o X.env := by rfl)
    (hfew : ((backTo cpos (starEach (e :: es) X.env)).all (fun x => !x.1) && (backToKw cpos (keywordEach [] X.env)).all (fun x => x.1.isSome)
      && decide ((e :: es).length + ([] : List Keyword).length + (if ([] : List Keyword).isEmpty then 0 else 1) < 30)) = true := by rfl)
    (hline : (apos.endLine == cpos.line) = true := by rfl) (hs : starEach (e :: es) X.env = (false, eval e X.env) :: starEach es X.env := by rfl) (hplain : (backTo cpos (starEach es X.env)).any (·.1) = false := by rfl) :
    EvD X (.Call (.Attribute o name apos) (e :: es) [] cpos) σd Gs Q R := by
  intro pn xe E F σ H wh hE ob sl
  refine (pe_bx (X := X.tr pn xe) pa slot hty semM_self PE.self PA.self hbase hfew hline hs hplain).get ?_
  refine h.go wh hE Keep.refl ob sl fun v H1 x G1 ob1 k1 _ sl1 rx ⟨ty, h1⟩ => ⟨ty F H1 v ob1 rx, ?_⟩
  refine h1.go wh hE k1 ob1 sl1 fun vs H2 ds G2 ob2 k2 k12 sl2 rs ⟨r, hr, hm⟩ => ?_
  exact semM_imp (semM_get (hr pn xe) (hm F H2 v vs ob2 (RD.keep k12 _ _ rx) rs)) fun _ _ p => p.trans k2
theorem e_bm0 {name : Str} {T id : String} (pa : PlainAttrs T) (slot : Slot T name id) (hty : typeOf (.builtin id) = pure (.type "method_descriptor"))
    (h : EvD X o σd Gs (fun x G1 => TyD X.K T x G1 ∧ MetD X id x [] G1 Q) R)
    (hbase : attributeBase o name X.env (eval o X.env) = eval o X.env := by rfl) (hline : (apos.endLine == cpos.line) = true := by rfl) : EvD X (.Call (.Attribute o name apos) [] [] cpos) σd Gs Q R := by
  intro pn xe E F σ H wh hE ob sl
  refine (pe_bx0 (X := X.tr pn xe) pa slot hty semM_self PE.self hbase hline).get ?_
  refine h.go wh hE Keep.refl ob sl fun v H1 x G1 ob1 k1 _ sl1 rx ⟨ty, r, hr, hm⟩ => ⟨ty F H1 v ob1 rx, ?_⟩
  exact semM_imp (semM_get (hr pn xe) (hm F H1 v [] ob1 rx rfl)) fun _ _ p => p.trans k1

/-! ### calls of defs -/
/-- the callee runs -/
theorem sem_fn {X : Cx} {f : Addr} {fd : FuncData} {ps : List Str} {ds : List Value} {dvs : List V} {sp : L2.Sp} {j k : Nat} {E : XK} {vs : List V} {H : Hp} {Q : VK} (F : FnG X.prog X.w X.K X.mg X.base j f fd ps sp) (hr : Room k X.A) (hj : j ≤ k) (hg : X.A.guards = some []) (hb : Binds X.K fd ps ds) (hd : Vals dvs ds)
    (hx : Passes (L2.CX X.prog X.w) X E) (h : sp (vs ++ dvs) H Q E) : semC X (.ref f) vs H Q := by
  intro pins s σ us I r
  have r2 := r.append hd
  have hl : (us ++ ds).length = ps.length := r2.length.symm.trans (F.len _ _ _ _ h)
  refine wpAny_call (codeAny_mono (F.run X.A X.stack s H ⟨us, []⟩ (us ++ ds) (vs ++ dvs) Q E hg (hr.mono hj) I.env0 (hb s us I.kIn hl) r2 h) fun res s' hq => ?_)
  match res, hq with
  | .error e, hq => exact hx pins σ H s e s' I hq
  | .ok (.ret u), hq => exact I.after hq
/-- a new instance is made, its __init__ runs -/
theorem sem_make {X : Cx} {f C : Addr} {fd : FuncData} {ps : List Str} {ds : List Value} {dvs : List V} {sp : L2.Sp} {j k : Nat} {E : XK} {vs : List V} {H : Hp} {Q : VK} (M : Mk X.K C f) (F : FnG X.prog X.w X.K X.mg X.base j f fd ps sp) (hr : Room k X.A) (hj : j + 1 ≤ k) (hg : X.A.guards = some []) (hb : Binds X.K fd ps ds)
    (hd : Vals dvs ds) (hx : Passes (L2.CX X.prog X.w) X E)
    (h : ∀ x dx, H x = none → H dx = none → dx ≠ x → sp (.ref x :: (vs ++ dvs)) (L2.upd (L2.upd H dx (.own x)) x (.ins C dx [])) (fun v H2 => v = .non ∧ Q (.ref x) H2) E) : semC X (.ref C) vs H Q := by
  intro pins s σ us I r
  have I2 := Inv.made (C := C) I
  have h' := h (s.heap.objs.size + 1) s.heap.objs.size (I.hok.fresh (Nat.le_succ _)) (I.hok.fresh (Nat.le_refl _)) (Nat.ne_of_lt (Nat.lt_succ_self _))
  have r2 : Vals (V.ref (s.heap.objs.size + 1) :: (vs ++ dvs)) (Value.ref (s.heap.objs.size + 1) :: (us ++ ds)) := .cons rfl (r.append hd)
  have hl : (Value.ref (s.heap.objs.size + 1) :: us ++ ds).length = ps.length := r2.length.symm.trans (F.len _ _ _ _ h')
  have hg2 : (X.A.under (.builtin "type.__call__" ⟨.ref C :: us, []⟩)).guards = some [] := hg
  refine wpAny_call (make_map (f := f) I.kIn M.makes M.init (beq_iff_eq.mp M.fn) (codeAny_mono (F.run _ X.stack _ _ ⟨Value.ref (s.heap.objs.size + 1) :: us, []⟩ (Value.ref (s.heap.objs.size + 1) :: (us ++ ds)) _ _ E hg2 ((hr.mono hj).make C us [])
    (I2.env0.make C us []) (hb _ (Value.ref (s.heap.objs.size + 1) :: us) I2.kIn hl) r2 h') fun res s' hq => ?_))
  match res, hq with
  | .error e, hq => exact hx pins σ _ _ e s' I2 hq
  | .ok (.ret u), hq =>
    obtain ⟨v, H', I3, rv, ev, q3⟩ := I2.after hq
    subst ev
    exact ⟨rv, ⟨V.ref (s.heap.objs.size + 1), H', I3, rfl, q3⟩⟩
/-- f(..), f a def or class of the module -/
theorem pe_ref {X : Cx} {x : Str} {f : Addr} {p pos : Pos} {e : Expr} {es : List Expr} {t : TA} {r : List V → Hp → VK → Prop} (hc : CallR X (.ref f) r) (hg : Gl X x) (hm : X.mg x = some (.ref f)) (hk : PySem.W.keepIn X.K (.ref f) = true) (ha : PA X (e :: es) t) (hdb : (x == ("__debug__" : Str)) = false)
    (he : starEach (e :: es) X.env = (false, eval e X.env) :: starEach es X.env) (hpl : (backTo pos (starEach es X.env)).any (·.1) = false) : PE X (.Call (.Name x p) (e :: es) [] pos) (tCB r t) :=
  ⟨fun pins s σ H Q I h => wpAny_Call_Name_kw (ld_glob I hg hm (PySem.W.callWith_K (h₀ := X.base) I.ok.mod.kin hk (thn (ha.run pos pins s σ H _ I h) fun us s1 ⟨vs, H1, I1, rv, q⟩ => ⟨I1.kIn, hc pins s1 σ H1 vs us Q I1 rv q⟩) he hpl) hdb)⟩
theorem pe_ref0 {X : Cx} {x : Str} {f : Addr} {p pos : Pos} {r : List V → Hp → VK → Prop} (hc : CallR X (.ref f) r) (hg : Gl X x) (hm : X.mg x = some (.ref f)) (hk : PySem.W.keepIn X.K (.ref f) = true) (hdb : (x == ("__debug__" : Str)) = false) : PE X (.Call (.Name x p) [] [] pos) (tCB r tNil) :=
  ⟨fun pins s σ H Q I h => wpAny_Call_Name_kw (ld_glob I hg hm (PySem.W.callWith_K0 I.kIn hk (hc pins s σ H [] [] Q I .nil h)) hdb)⟩
/-- o.m(..) of an own class -/
def tMR (C : Addr) (m : Str) (r : List V → Hp → VK → Prop) (ta : TE) (t : TA) : TE := fun σ H Q => ta σ H fun x H1 => ∃ a dx fs, x = .ref a ∧ H1 a = some (.ins C dx fs) ∧ fs.lookup m = none ∧ t σ H1 fun vs H2 => r (x :: vs) H2 Q
theorem pe_mref {X : Cx} {C f : Addr} {m : Str} {apos pos : Pos} {o e : Expr} {es : List Expr} {ta : TE} {t : TA} {r : List V → Hp → VK → Prop} {pl : Sem Bool} (hc : CallR X (.ref f) r) (he : PE X o ta) (c : Cls X.K C) (hm : Meth X.K C m f) (ha : PA X (e :: es) t)
    (hst : starEach (e :: es) X.env = (false, eval e X.env) :: starEach es X.env) (hpl : (backTo pos (starEach es X.env)).any (·.1) = false)
    (ht : eval (.Call (.Attribute o m apos) (e :: es) [] pos) X.env = (do
      let ov ← eval o X.env
      standAt apos.atName
      let (f, first) ← holding [ov] (getMethod ov m pl)
      callWith pos f first (backTo pos (starEach (e :: es) X.env)) (backToKw pos (keywordEach [] X.env)))) : PE X (.Call (.Attribute o m apos) (e :: es) [] pos) (tMR C m r ta t) := by
  refine ⟨fun pins s σ H Q I h => PySem.W.methodCall_KW (pl := pl) (thn (he.run pins s σ H _ I h) fun u s1 ⟨x, H1, I1, rx, a, dx, fs, ex, ea, l, q⟩ => ?_) ht⟩
  subst ex
  cases (show u = Value.ref a from rx)
  exact getmeth_ok I1 ea c hm l (PySem.W.callWith_K (first := [.ref a]) (h₀ := X.base) I.ok.mod.kin hm.kp (thn (ha.run pos pins s1 σ H1 _ I1 q) fun us s2 ⟨vs, H2, I2, rv, q2⟩ => ⟨I2.kIn, hc pins s2 σ H2 (.ref a :: vs) (.ref a :: us) Q I2 (.cons rfl rv) q2⟩) hst hpl)
theorem pe_mref0 {X : Cx} {C f : Addr} {m : Str} {apos pos : Pos} {o : Expr} {ta : TE} {r : List V → Hp → VK → Prop} {pl : Sem Bool} (hc : CallR X (.ref f) r) (he : PE X o ta) (c : Cls X.K C) (hm : Meth X.K C m f)
    (ht : eval (.Call (.Attribute o m apos) [] [] pos) X.env = (do
      let ov ← eval o X.env
      standAt apos.atName
      let (f, first) ← holding [ov] (getMethod ov m pl)
      callWith pos f first (backTo pos (starEach [] X.env)) (backToKw pos (keywordEach [] X.env)))) : PE X (.Call (.Attribute o m apos) [] [] pos) (tMR C m r ta tNil) := by
  refine ⟨fun pins s σ H Q I h => PySem.W.methodCall_KW (pl := pl) (thn (he.run pins s σ H _ I h) fun u s1 ⟨x, H1, I1, rx, a, dx, fs, ex, ea, l, q⟩ => ?_) ht⟩
  subst ex
  cases (show u = Value.ref a from rx)
  exact getmeth_ok I1 ea c hm l (PySem.W.callWith_K0 (first := [.ref a]) I1.kIn hm.kp (hc pins s1 σ H1 [.ref a] [.ref a] Q I1 (.cons rfl .nil) q))
/-- the module's def x keeps the promise sp -/
def Cal (P : Program) (w : World) (K : PySem.W.Frag) (mg : Str → Option Value) (base : Heap) (j : Nat) (x : Str) (n : Nat) (sp : SpD) : Prop :=
  ∃ f fd ps, FnG P w K mg base j f fd ps (toSp K n sp) ∧ mg x = some (.ref f) ∧ PySem.W.keepIn K (.ref f) = true ∧ Binds K fd ps []
/-- the method m of the class at C (with defaults dd) -/
def CalM (P : Program) (w : World) (K : PySem.W.Frag) (mg : Str → Option Value) (base : Heap) (j : Nat) (C : Addr) (ns : List Str) (m : Str) (n : Nat) (sp : SpD) : Prop :=
  ∃ f fd ps, FnG P w K mg base j f fd ps (toSp K n sp) ∧ Meth K C m f ∧ Binds K fd ps [] ∧ m ∉ ns
/-- the class x at C, by its __init__ -/
def CalC (P : Program) (w : World) (K : PySem.W.Frag) (mg : Str → Option Value) (base : Heap) (j : Nat) (x : Str) (C : Addr) (n : Nat) (dd : List D) (sp : SpD) : Prop :=
  ∃ f fd ps ds dvs, FnG P w K mg base j f fd ps (toSp K n sp) ∧ Mk K C f ∧ mg x = some (.ref C) ∧ Binds K fd ps ds ∧ Vals dvs ds ∧ ∀ N H, RDs K N H dd dvs
theorem run_sp {F : List Cell} {H H1 : Hp} {G1 Ps Rest : Pt} {sp : SpD} {ds : List D} {vs : List V} {n : Nat} {E : XK} (hn : ds.length = n) (hE : ∀ c od H', Wx K F Gs H R c od H' → E c od H') (ob1 : Ob K (tot G1 F) H1) (k1 : Keep (dm (tot Gs F)) H (dm (tot G1 F)) H1)
    (rs : RDs K (dm (tot G1 F)) H1 ds vs) (pk : Pick G1 Ps Rest) (h : sp ds Ps (fun d Ps' => Q d (Ps' ++ Rest)) (fun C fs Ps' => R C fs (Ps' ++ Rest))) : toSp K n sp vs H1 (Post K F Gs H Q) E := by
  have e0 : ∀ Z : Pt, tot Z (Rest.flatten ++ F) = tot (Z ++ Rest) F := fun Z => by
    unfold tot
    rw [List.flatten_append, List.append_assoc]
  have p1 : (tot Ps (Rest.flatten ++ F)).Perm (tot G1 F) := by
    unfold tot
    rw [← List.append_assoc]
    exact pk.perm.append_right F
  have pd : ∀ x, x ∉ dm (tot G1 F) → x ∉ dm (tot Ps (Rest.flatten ++ F)) := fun x hx hx' => hx ((p1.map (fun c : Cell => c.1)).mem_iff.mp hx')
  have k2 : Keep (dm (tot Gs F)) H (dm (tot Ps (Rest.flatten ++ F))) H1 := k1.trans (Keep.self pd)
  refine ⟨by rw [rs.length]; exact hn, ds, Ps, Rest.flatten ++ F, _, _, RDs.perm pd _ _ rs, ob1.perm p1, h, fun v H' p => ?_, fun c od H' p => ?_⟩
  · obtain ⟨d, Ps', ob', k', r, q⟩ := p
    rw [e0] at ob' r
    rw [e0 Ps'] at k'
    exact ⟨d, Ps' ++ Rest, ob', k2.trans k', r, q⟩
  · obtain ⟨C, fs, Ps', ec, ob', k', x, q⟩ := p
    rw [e0] at ob' x
    rw [e0 Ps'] at k'
    exact hE c od H' ⟨C, fs, Ps' ++ Rest, ec, ob', k2.trans k', x, q⟩
theorem e_call {x : Str} {p : Pos} {j i n : Nat} {sp : SpD} (B : Bd X P w K mg base sc N Vs GN k) (c : Cal P w K mg base j x n sp) (hG : GN[i]? = some x) (hj : j ≤ k)
    (h : EvA X (e :: es) σd Gs (fun ds G => ds.length = n ∧ ∃ Ps Rest, Pick G Ps Rest ∧ sp ds Ps (fun d Ps' => Q d (Ps' ++ Rest)) (fun C fs Ps' => R C fs (Ps' ++ Rest))) R)
    (he : starEach (e :: es) X.env = (false, eval e X.env) :: starEach es X.env := by rfl) (hpl : (backTo pos (starEach es X.env)).any (·.1) = false := by rfl) : EvD X (.Call (.Name x p) (e :: es) [] pos) σd Gs Q R := by
  obtain ⟨f, fd, ps, Fk, hm, hk, hb⟩ := c
  obtain ⟨rfl, rfl, rfl, rfl, rfl, rfl, _, _, _, room, gd, nm, _⟩ := B
  intro pn xe E F σ H wh hE ob sl
  obtain ⟨g1, g2, g3⟩ := nm.gl i x hG
  refine (pe_ref (X := X.tr pn xe) semC_self g1 hm hk PA.self g2 he hpl).get ?_
  refine h.go wh hE Keep.refl ob sl fun vs H1 ds G1 ob1 k1 _ sl1 rs ⟨hn, Ps, Rest, pk, hs⟩ => ?_
  refine sem_fn (X := X.tr pn xe) (dvs := []) Fk room hj gd hb .nil (passes_call wh.tk fun _ _ _ _ z => z) ?_
  rw [List.append_nil]
  exact run_sp hn hE ob1 k1 rs pk hs
theorem e_meth {m : Str} {C : Addr} {ns : List Str} {j n : Nat} {sp : SpD} {pl : Sem Bool} (B : Bd X P w K mg base sc N Vs GN k) (T : ClsI K C ns) (c : CalM P w K mg base j C ns m n sp) (hj : j ≤ k)
    (h : EvD X o σd Gs (fun x G1 => (∀ F H vx, Ob X.K (tot G1 F) H → RD X.K (dm (tot G1 F)) H x vx → ∃ a dx vs, vx = .ref a ∧ H a = some (.ins C dx (ns.zip vs))) ∧
      EvA X (e :: es) σd G1 (fun ds G => ds.length + 1 = n ∧ ∃ Ps Rest, Pick G Ps Rest ∧ sp (x :: ds) Ps (fun d Ps' => Q d (Ps' ++ Rest)) (fun C fs Ps' => R C fs (Ps' ++ Rest))) R) R)
    (hst : starEach (e :: es) X.env = (false, eval e X.env) :: starEach es X.env := by rfl) (hpl : (backTo pos (starEach es X.env)).any (·.1) = false := by rfl)
    (ht : eval (.Call (.Attribute o m apos) (e :: es) [] pos) X.env = (do
      let ov ← eval o X.env
      standAt apos.atName
      let (f, first) ← holding [ov] (getMethod ov m pl)
      callWith pos f first (backTo pos (starEach (e :: es) X.env)) (backToKw pos (keywordEach [] X.env))) := by rfl) : EvD X (.Call (.Attribute o m apos) (e :: es) [] pos) σd Gs Q R := by
  obtain ⟨f, fd, ps, Fk, hm, hb, hno⟩ := c
  obtain ⟨rfl, rfl, rfl, rfl, rfl, rfl, _, _, _, room, gd, nm, _⟩ := B
  intro pn xe E F σ H wh hE ob sl
  refine (pe_mref (X := X.tr pn xe) (pl := pl) semC_self PE.self T.cl hm PA.self hst hpl ht).get ?_
  refine h.go wh hE Keep.refl ob sl fun v H1 x G1 ob1 k1 _ sl1 rx ⟨hin, h1⟩ => ?_
  obtain ⟨a, dx, vs0, rfl, ha⟩ := hin F H1 v ob1 rx
  refine ⟨a, dx, _, rfl, ha, lookup_none hno, ?_⟩
  refine h1.go wh hE k1 ob1 sl1 fun vs H2 ds G2 ob2 k2 k12 sl2 rs ⟨hn, Ps, Rest, pk, hs⟩ => ?_
  refine sem_fn (X := X.tr pn xe) (dvs := []) Fk room hj gd hb .nil (passes_call wh.tk fun _ _ _ _ z => z) ?_
  rw [List.append_nil]
  exact run_sp (ds := x :: ds) hn hE ob2 k2 ⟨_, _, rfl, RD.keep k12 _ _ rx, rs⟩ pk hs
theorem e_meth0 {m : Str} {C : Addr} {ns : List Str} {j n : Nat} {sp : SpD} {pl : Sem Bool} (B : Bd X P w K mg base sc N Vs GN k) (T : ClsI K C ns) (c : CalM P w K mg base j C ns m n sp) (hj : j ≤ k)
    (h : EvD X o σd Gs (fun x G => (∀ F H vx, Ob X.K (tot G F) H → RD X.K (dm (tot G F)) H x vx → ∃ a dx vs, vx = .ref a ∧ H a = some (.ins C dx (ns.zip vs))) ∧
      1 = n ∧ ∃ Ps Rest, Pick G Ps Rest ∧ sp [x] Ps (fun d Ps' => Q d (Ps' ++ Rest)) (fun C fs Ps' => R C fs (Ps' ++ Rest))) R)
    (ht : eval (.Call (.Attribute o m apos) [] [] pos) X.env = (do
      let ov ← eval o X.env
      standAt apos.atName
      let (f, first) ← holding [ov] (getMethod ov m pl)
      callWith pos f first (backTo pos (starEach [] X.env)) (backToKw pos (keywordEach [] X.env))) := by rfl) : EvD X (.Call (.Attribute o m apos) [] [] pos) σd Gs Q R := by
  obtain ⟨f, fd, ps, Fk, hm, hb, hno⟩ := c
  obtain ⟨rfl, rfl, rfl, rfl, rfl, rfl, _, _, _, room, gd, nm, _⟩ := B
  intro pn xe E F σ H wh hE ob sl
  refine (pe_mref0 (X := X.tr pn xe) (pl := pl) semC_self PE.self T.cl hm ht).get ?_
  refine h.go wh hE Keep.refl ob sl fun v H1 x G1 ob1 k1 _ sl1 rx ⟨hin, hn, Ps, Rest, pk, hs⟩ => ?_
  obtain ⟨a, dx, vs0, rfl, ha⟩ := hin F H1 v ob1 rx
  refine ⟨a, dx, _, rfl, ha, lookup_none hno, ?_⟩
  refine sem_fn (X := X.tr pn xe) (dvs := []) Fk room hj gd hb .nil (passes_call wh.tk fun _ _ _ _ z => z) ?_
  exact run_sp (ds := [x]) hn hE ob1 k1 ⟨_, _, rfl, rx, rfl⟩ pk hs
theorem ins_own {p C : Addr} {ns : List Str} {ds : List D} (h : Has Gs p (.ins C ns ds)) : ∀ F H vx, Ob K (tot Gs F) H → RD K (dm (tot Gs F)) H (.ref p) vx → ∃ a dx vs, vx = .ref a ∧ H a = some (.ins C dx (ns.zip vs)) := fun F H vx ob r => by
  cases (show vx = .ref p from r)
  obtain ⟨o, e, dx, vs, rfl, _⟩ := ob.get h
  exact ⟨p, dx, vs, rfl, e⟩
theorem ins_frz {C : Addr} {ns : List Str} {ds : List D} : ∀ F H vx, Ob K (tot Gs F) H → RD K (dm (tot Gs F)) H (.ins C ns ds) vx → ∃ a dx vs, vx = .ref a ∧ H a = some (.ins C dx (ns.zip vs)) := fun F H vx ob r => by
  obtain ⟨a, dx, vs, rfl, n, e, _⟩ := r
  exact ⟨a, dx, vs, rfl, e⟩
/-- C(e, ..): a new instance, at first without attributes -/
theorem e_make {x : Str} {p : Pos} {C : Addr} {j i n : Nat} {dd : List D} {sp : SpD} (B : Bd X P w K mg base sc N Vs GN k) (c : CalC P w K mg base j x C n dd sp) (hG : GN[i]? = some x) (hj : j + 1 ≤ k)
    (h : EvA X (e :: es) σd Gs (fun ds G => (ds ++ dd).length + 1 = n ∧ ∀ q, ∃ Ps Rest, Pick G Ps Rest ∧ sp (.ref q :: (ds ++ dd)) ([(q, .ins C [] [])] :: Ps) (fun d Ps' => d = .non ∧ Q (.ref q) (Ps' ++ Rest)) (fun C fs Ps' => R C fs (Ps' ++ Rest))) R)
    (he : starEach (e :: es) X.env = (false, eval e X.env) :: starEach es X.env := by rfl) (hpl : (backTo pos (starEach es X.env)).any (·.1) = false := by rfl) : EvD X (.Call (.Name x p) (e :: es) [] pos) σd Gs Q R := by
  obtain ⟨f, fd, ps, dv, dvs, Fk, M, hm, hb, hd, hdd⟩ := c
  obtain ⟨rfl, rfl, rfl, rfl, rfl, rfl, _, _, _, room, gd, nm, _⟩ := B
  intro pn xe E F σ H wh hE ob sl
  obtain ⟨g1, g2, g3⟩ := nm.gl i x hG
  refine (pe_ref (X := X.tr pn xe) semC_self g1 hm M.kp PA.self g2 he hpl).get ?_
  refine h.go wh hE Keep.refl ob sl fun vs H1 ds G1 ob1 k1 _ sl1 rs ⟨hn, hs⟩ => ?_
  refine sem_make (X := X.tr pn xe) M Fk room hj gd hb hd (passes_call wh.tk fun _ _ _ _ z => z) fun y dx ny ndx ne => ?_
  obtain ⟨Ps, Rest, pk, hs⟩ := hs y
  have ny' : (L2.upd H1 dx (.own y)) y = none := by rw [upd_ne ne.symm]; exact ny
  have ob2 : Ob X.K (tot ([(y, .ins C [] [])] :: G1) F) (L2.upd (L2.upd H1 dx (.own y)) y (.ins C dx [])) := (ob1.newF ndx).new (m := .ins C [] []) ny' ⟨dx, [], rfl, rfl, rfl⟩
  have k2 : Keep (dm (tot G1 F)) H1 (dm (tot ([(y, .ins C [] [])] :: G1) F)) (L2.upd (L2.upd H1 dx (.own y)) y (.ins C dx [])) := (Keep.newF ndx).trans (Keep.newO ny')
  have k2' : Keep (dm (tot Gs F)) H (dm (tot ([(y, .ins C [] [])] :: G1) F)) (L2.upd (L2.upd H1 dx (.own y)) y (.ins C dx [])) := k1.trans k2
  have pk' : Pick ([(y, .ins C [] [])] :: G1) ([(y, .ins C [] [])] :: Ps) Rest := .cons .here pk
  have rs' : RDs X.K (dm (tot ([(y, .ins C [] [])] :: G1) F)) (L2.upd (L2.upd H1 dx (.own y)) y (.ins C dx [])) (.ref y :: (ds ++ dd)) (V.ref y :: (vs ++ dvs)) := ⟨_, _, rfl, rfl, (RDs.keep k2 _ _ rs).append (hdd _ _)⟩
  obtain ⟨ln, ds', Gs', F', Qd, Rd, h1, h2, h3, h4, h5⟩ := run_sp (sp := sp) (Q := fun d Ps' => d = .non ∧ Q (.ref y) Ps') (n := n) (ds := .ref y :: (ds ++ dd)) hn hE ob2 k2' rs' pk' hs
  refine ⟨ln, ds', Gs', F', Qd, Rd, h1, h2, h3, fun v H' p => ?_, h5⟩
  obtain ⟨d, Gz, obz, kz, rz, ed, q⟩ := h4 v H' p
  subst ed
  exact ⟨show v = .non from rz, .ref y, Gz, obz, kz, rfl, q⟩
theorem e_make0 {x : Str} {p : Pos} {C : Addr} {j i n : Nat} {dd : List D} {sp : SpD} (B : Bd X P w K mg base sc N Vs GN k) (c : CalC P w K mg base j x C n dd sp) (hG : GN[i]? = some x) (hj : j + 1 ≤ k)
    (h : dd.length + 1 = n ∧ ∀ q, ∃ Ps Rest, Pick Gs Ps Rest ∧ sp (.ref q :: dd) ([(q, .ins C [] [])] :: Ps) (fun d Ps' => d = .non ∧ Q (.ref q) (Ps' ++ Rest)) (fun C fs Ps' => R C fs (Ps' ++ Rest))) : EvD X (.Call (.Name x p) [] [] pos) σd Gs Q R := by
  obtain ⟨f, fd, ps, dv, dvs, Fk, M, hm, hb, hd, hdd⟩ := c
  obtain ⟨rfl, rfl, rfl, rfl, rfl, rfl, _, _, _, room, gd, nm, _⟩ := B
  intro pn xe E F σ H wh hE ob sl
  obtain ⟨g1, g2, g3⟩ := nm.gl i x hG
  refine (pe_ref0 (X := X.tr pn xe) semC_self g1 hm M.kp g2).get ?_
  obtain ⟨hn, hs⟩ := h
  refine sem_make (X := X.tr pn xe) (vs := []) M Fk room hj gd hb hd (passes_call wh.tk fun _ _ _ _ z => z) fun y dx ny ndx ne => ?_
  obtain ⟨Ps, Rest, pk, hs⟩ := hs y
  have ny' : (L2.upd H dx (.own y)) y = none := by rw [upd_ne ne.symm]; exact ny
  have ob2 : Ob X.K (tot ([(y, .ins C [] [])] :: Gs) F) (L2.upd (L2.upd H dx (.own y)) y (.ins C dx [])) := (ob.newF ndx).new (m := .ins C [] []) ny' ⟨dx, [], rfl, rfl, rfl⟩
  have k2 : Keep (dm (tot Gs F)) H (dm (tot ([(y, .ins C [] [])] :: Gs) F)) (L2.upd (L2.upd H dx (.own y)) y (.ins C dx [])) := (Keep.newF ndx).trans (Keep.newO ny')
  have pk' : Pick ([(y, .ins C [] [])] :: Gs) ([(y, .ins C [] [])] :: Ps) Rest := .cons .here pk
  have rs' : RDs X.K (dm (tot ([(y, .ins C [] [])] :: Gs) F)) (L2.upd (L2.upd H dx (.own y)) y (.ins C dx [])) (.ref y :: dd) (V.ref y :: ([] ++ dvs)) := ⟨_, _, rfl, rfl, hdd _ _⟩
  obtain ⟨ln, ds', Gs', F', Qd, Rd, h1, h2, h3, h4, h5⟩ := run_sp (sp := sp) (Q := fun d Ps' => d = .non ∧ Q (.ref y) Ps') (n := n) (ds := .ref y :: dd) hn hE ob2 k2 rs' pk' hs
  refine ⟨ln, ds', Gs', F', Qd, Rd, h1, h2, h3, fun v H' p => ?_, h5⟩
  obtain ⟨d, Gz, obz, kz, rz, ed, q⟩ := h4 v H' p
  subst ed
  exact ⟨show v = .non from rz, .ref y, Gz, obz, kz, rfl, q⟩
end
end Dl
namespace Dl
open PySem PySem.Spec PyProof.Rows L2
section
variable {X : Cx} {P : Program} {w : World} {K : PySem.W.Frag} {mg : Str → Option Value} {base : Heap} {sc : Scope} {N : List Str} {Vs : List Nat} {GN : List Str} {k : Nat}
variable {σd : Sd} {Gs : Pt} {Q : QD} {R : RX} {D : DE} {e a b c o : Expr} {es rest : List Expr} {st : Stmt} {sts : List Stmt} {pos p2 apos cpos : Pos}

/-! ### blocks -/
theorem ss_nil (q : D.nx σd Gs) : SsD X [] σd Gs D := fun pn xe E F σ H wh hE ob sl => (pss_nil (X := X.tr pn xe)).get ⟨σd, Gs, ob, Keep.refl, sl, q⟩
theorem ss_cons (h : StD X st σd Gs { D with nx := fun σ' G' => SsD X sts σ' G' D }) : SsD X (st :: sts) σd Gs D := by
  intro pn xe E F σ H wh hE ob sl
  refine (pss_cons (X := X.tr pn xe) PS.self PSs.self).get ?_
  refine (h pn xe E F σ H wh hE ob sl).imp ⟨fun σ' H' ⟨σd', G', ob', k', sl', q⟩ => ?_, fun _ _ q => q, fun _ _ q => q, fun _ _ q => q⟩
  exact q.go wh hE k' ob' sl'
theorem ss_imp {D' : DE} (h : SsD X sts σd Gs D) (nx : ∀ σ G, D.nx σ G → D'.nx σ G) (rt : ∀ d G, D.rt d G → D'.rt d G) (bk : ∀ σ G, D.bk σ G → D'.bk σ G) (ct : ∀ σ G, D.ct σ G → D'.ct σ G) (ex : ∀ C fs G, D.ex C fs G → D'.ex C fs G) : SsD X sts σd Gs D' := by
  intro pn xe E F σ H wh hE ob sl
  refine (h pn xe E F σ H wh (fun c od H' ⟨C, fs, G', e1, e2, e3, e4, q⟩ => hE c od H' ⟨C, fs, G', e1, e2, e3, e4, ex _ _ _ q⟩) ob sl).imp
    ⟨fun _ _ ⟨σ', G', a1, a2, a3, q⟩ => ⟨σ', G', a1, a2, a3, nx _ _ q⟩, fun _ _ ⟨d, G', a1, a2, a3, q⟩ => ⟨d, G', a1, a2, a3, rt _ _ q⟩, fun _ _ ⟨σ', G', a1, a2, a3, q⟩ => ⟨σ', G', a1, a2, a3, bk _ _ q⟩, fun _ _ ⟨σ', G', a1, a2, a3, q⟩ => ⟨σ', G', a1, a2, a3, ct _ _ q⟩⟩
/-- the cells in another order, some given up for ever -/
theorem ss_re {Gs' : Pt} (p : ∀ F : List Cell, (tot Gs' F).Sublist (tot Gs F) ∨ (tot Gs' F).Perm (tot Gs F)) (h : SsD X sts σd Gs' D) : SsD X sts σd Gs D := by
  intro pn xe E F σ H wh hE ob sl
  have kk : (∀ x, x ∉ dm (tot Gs F) → x ∉ dm (tot Gs' F)) ∧ Ob X.K (tot Gs' F) H := by
    rcases p F with q | q
    · exact ⟨fun x hx hx' => hx ((q.map (fun c : Cell => c.1)).subset hx'), ob.sub q⟩
    · exact ⟨fun x hx hx' => hx ((q.map (fun c : Cell => c.1)).mem_iff.mp hx'), ob.perm q⟩
  exact h.go wh hE (Keep.self kk.1) kk.2 (sl.keep (Keep.self kk.1))
/-- a cell frozen: from now on it stays as it is, the slot i (which holds its address) holds its content -/
theorem ss_frz {p : Addr} {ds : List Dl.D} {i : Nat} {Gs' : Pt} (hs : σd[i]? = some (some (.ref p))) (t : Take Gs [(p, .lst ds)] Gs') (h : SsD X sts (σd.set i (some (.lst ds))) Gs' D) : SsD X sts σd Gs D := by
  intro pn xe E F σ H wh hE ob sl
  have hm : Has Gs p (.lst ds) := t.has .here
  obtain ⟨o, e, vs, rfl, r⟩ := ob.get hm
  have pr : (tot ([[(p, M.lst ds)]] ++ Gs') F).Perm (tot Gs F) := by
    unfold tot
    rw [List.singleton_append, List.flatten_cons]
    exact t.perm.append_right F
  have ob' := ob.perm pr
  have su : (tot Gs' F).Sublist (tot ([[(p, M.lst ds)]] ++ Gs') F) := by
    show (Gs'.flatten ++ F).Sublist ((p, M.lst ds) :: (Gs'.flatten ++ F))
    exact List.sublist_cons_self _ _
  have ob2 := ob'.sub su
  have kk : ∀ x, x ∉ dm (tot Gs F) → x ∉ dm (tot Gs' F) := fun x hx hx' => hx ((pr.map (fun c : Cell => c.1)).mem_iff.mp ((su.map (fun c : Cell => c.1)).subset hx'))
  have pn' : p ∉ dm (tot Gs' F) := by
    have nd : (dm (tot ([[(p, M.lst ds)]] ++ Gs') F)).Nodup := ob'.nd
    have nd' : (p :: dm (tot Gs' F)).Nodup := nd
    exact (List.nodup_cons.mp nd').1
  obtain ⟨v, ev, rv⟩ := sl.2 i _ hs
  cases (show v = .ref p from rv)
  have sl2 := (sl.keep (Keep.self kk)).set (d := .lst ds) (v := .ref p) ⟨p, vs, rfl, pn', e, RDs.perm kk _ _ r⟩ i
  have es : σ.set i (some (.ref p)) = σ := by
    apply List.ext_getElem?
    intro j
    by_cases hj : i = j
    · subst hj
      rw [List.getElem?_set_self (List.getElem?_eq_some_iff.mp ev).1, ev]
    · rw [List.getElem?_set_ne hj]
  rw [es] at sl2
  exact h.go wh hE (Keep.self kk) ob2 sl2

/-! ### statements -/
theorem s_pass (q : D.nx σd Gs) : StD X (.Pass pos) σd Gs D := fun pn xe E F σ H wh hE ob sl => (ps_pass (X := X.tr pn xe)).get ⟨σd, Gs, ob, Keep.refl, sl, q⟩
theorem s_brk (q : D.bk σd Gs) : StD X (.Break pos) σd Gs D := fun pn xe E F σ H wh hE ob sl => (ps_break (X := X.tr pn xe)).get ⟨σd, Gs, ob, Keep.refl, sl, q⟩
theorem s_ctn (q : D.ct σd Gs) : StD X (.Continue pos) σd Gs D := fun pn xe E F σ H wh hE ob sl => (ps_continue (X := X.tr pn xe)).get ⟨σd, Gs, ob, Keep.refl, sl, q⟩
theorem s_expr (h : EvD X e σd Gs (fun _ G => D.nx σd G) D.ex) (hs : swapsWith e none pos.line X.env = pure false := by rfl) : StD X (.Expr e pos) σd Gs D := by
  intro pn xe E F σ H wh hE ob sl
  refine (ps_expr (X := X.tr pn xe) PE.self hs).get ?_
  exact h.go wh hE Keep.refl ob sl fun v H1 x G1 ob1 k1 _ sl1 rx q => ⟨σd, G1, ob1, k1, sl1, q⟩
theorem s_ret (h : EvD X e σd Gs D.rt D.ex) : StD X (.Return (some e) pos) σd Gs D := by
  intro pn xe E F σ H wh hE ob sl
  exact (ps_ret (X := X.tr pn xe) PE.self).get (h pn xe E F σ H wh hE ob sl)
theorem s_retN (q : D.rt .non Gs) : StD X (.Return none pos) σd Gs D := fun pn xe E F σ H wh hE ob sl => (ps_retN (X := X.tr pn xe)).get (Post.of (d := .non) ob Keep.refl rfl q)
theorem s_if {c : Expr} {xs ys : List Stmt} (h : EvT X c σd Gs (fun t G => (t = true → SsD X xs σd G D) ∧ (t = false → SsD X ys σd G D)) D.ex) : StD X (.If c xs ys pos) σd Gs D := by
  intro pn xe E F σ H wh hE ob sl
  refine (ps_if (X := X.tr pn xe) PT.self PSs.self PSs.self).get ?_
  refine h.go wh hE Keep.refl ob sl fun v H1 G1 ob1 k1 _ sl1 q => ?_
  cases v with
  | true =>
    rw [if_pos rfl]
    exact (q.1 rfl).go wh hE k1 ob1 sl1
  | false =>
    rw [if_neg Bool.false_ne_true]
    exact (q.2 rfl).go wh hE k1 ob1 sl1
theorem s_set {i : Nat} {x : Str} {pos' : Pos} (B : Bd X P w K mg base sc N Vs GN k) (hN : N[i]? = some x) (hV : Vs[i]? = some 2) (h : EvD X e σd Gs (fun d G => D.nx (σd.set i (some d)) G) D.ex)
    (hs : swapsWith e (some (.Name x pos')) pos.line X.env = pure false := by rfl) : StD X (.Assign [.Name x pos'] e pos) σd Gs D := by
  intro pn xe E F σ H wh hE ob sl
  have eN : (X.tr pn xe).N = N := B.eN
  refine (ps_set (X := X.tr pn xe) (i := i) (by rw [eN]; exact B.nd) (by rw [eN]; exact hN) (B.nm.loc i x hN hV) PE.self hs (B.hf i x hN hV)).get ?_
  exact h.go wh hE Keep.refl ob sl fun v H1 d G1 ob1 k1 _ sl1 r q => ⟨_, G1, ob1, k1, sl1.set r i, q⟩

/-! ### targets -/
def semG (X : Cx) (t : Expr) : TG := fun v σ H Q => ∀ (pins : List (Addr × Obj)) (s : Shared) (u : Value), Inv X pins σ H s → RelV v u → wpAny (model X.prog X.w) X.A (assign t X.env u) (fun _ s' => ∃ σ' H', Inv X pins σ' H' s' ∧ Q σ' H') X.xe s
theorem _root_.L2.PG.self {X : Cx} {t : Expr} : PG X t (semG X t) := ⟨fun pins s σ H v u Q I r h => h pins s u I r⟩
theorem _root_.L2.PG.get {X : Cx} {t : Expr} {g : TG} (h : PG X t g) {v : V} {σ : L2.St} {H : Hp} {Q : L2.St → Hp → Prop} (q : g v σ H Q) : semG X t v σ H Q := fun pins s u I r => h.run pins s σ H v u Q I r q
theorem semG_imp {X : Cx} {t : Expr} {v : V} {σ : L2.St} {H : Hp} {Q Q' : L2.St → Hp → Prop} (h : semG X t v σ H Q) (k : ∀ σ' H', Q σ' H' → Q' σ' H') : semG X t v σ H Q' := fun pins s u I r =>
  thn (h pins s u I r) fun _ s' ⟨σ', H', I', q⟩ => ⟨σ', H', I', k _ _ q⟩
def TgD (X : Cx) (t : Expr) (d : Dl.D) (σd : Sd) (Gs : Pt) (Q : Sd → Pt → Prop) (R : RX) : Prop :=
  ∀ pn xe E F σ H v, Wh X pn xe E → (∀ c od H', Wx X.K F Gs H R c od H' → E c od H') → Ob X.K (tot Gs F) H → Sl X.K (dm (tot Gs F)) H σd σ → RD X.K (dm (tot Gs F)) H d v → semG (X.tr pn xe) t v σ H (PostS X.K F Gs H Q)
theorem TgD.go {t : Expr} {d : Dl.D} {Q : Sd → Pt → Prop} {Gs0 : Pt} {pn : List (Addr × Obj)} {xe : Value → Shared → Prop} {E : XK} {F : List Cell} {σ : L2.St} {H H0 : Hp} {v : V} (h : TgD X t d σd Gs Q R) (wh : Wh X pn xe E) (hE : ∀ c od H', Wx X.K F Gs0 H0 R c od H' → E c od H')
    (k0 : Keep (dm (tot Gs0 F)) H0 (dm (tot Gs F)) H) (ob : Ob X.K (tot Gs F) H) (sl : Sl X.K (dm (tot Gs F)) H σd σ) (r : RD X.K (dm (tot Gs F)) H d v) {Qh : L2.St → Hp → Prop}
    (k : ∀ σ' H' σd' Gs', Ob X.K (tot Gs' F) H' → Keep (dm (tot Gs0 F)) H0 (dm (tot Gs' F)) H' → Keep (dm (tot Gs F)) H (dm (tot Gs' F)) H' → Sl X.K (dm (tot Gs' F)) H' σd' σ' → Q σd' Gs' → Qh σ' H') : semG (X.tr pn xe) t v σ H Qh :=
  semG_imp (h pn xe E F σ H v wh (fun c od H' w => hE c od H' (w.trans k0)) ob sl r) fun σ' H' ⟨σd', Gs', ob', k', sl', q⟩ => k σ' H' σd' Gs' ob' (k0.trans k') k' sl' q
theorem tg_name {i : Nat} {x : Str} {d : Dl.D} {Q : Sd → Pt → Prop} (B : Bd X P w K mg base sc N Vs GN k) (hN : N[i]? = some x) (hV : Vs[i]? = some 2) (q : Q (σd.set i (some d)) Gs) : TgD X (.Name x pos) d σd Gs Q R := by
  intro pn xe E F σ H v wh hE ob sl r
  have eN : (X.tr pn xe).N = N := B.eN
  exact (pg_name (X := X.tr pn xe) (i := i) (by rw [eN]; exact B.nd) (by rw [eN]; exact hN) (B.nm.loc i x hN hV) (B.hf i x hN hV)).get ⟨_, Gs, ob, Keep.refl, sl.set r i, q⟩
/-- several targets -/
def TgsD (X : Cx) : List Expr → List Dl.D → Sd → Pt → (Sd → Pt → Prop) → RX → Prop
  | [], ds, σd, Gs, Q, _ => ds = [] ∧ Q σd Gs
  | t :: ts, ds, σd, Gs, Q, R => ∃ d r, ds = d :: r ∧ (assignEach (t :: ts) X.env).map (·.2) = assign t X.env :: (assignEach ts X.env).map (·.2) ∧ TgD X t d σd Gs (fun σ' G' => TgsD X ts r σ' G' Q R) R
theorem tgs_run {pn : List (Addr × Obj)} {xe : Value → Shared → Prop} {E : XK} {F : List Cell} : ∀ (ts : List Expr) (ds : List Dl.D) (σd : Sd) (Gs Gs0 : Pt) (Q : Sd → Pt → Prop) (R : RX) (σ : L2.St) (H H0 : Hp) (vs : List V), Wh X pn xe E → (∀ c od H', Wx X.K F Gs0 H0 R c od H' → E c od H') →
    Keep (dm (tot Gs0 F)) H0 (dm (tot Gs F)) H → Ob X.K (tot Gs F) H → Sl X.K (dm (tot Gs F)) H σd σ → RDs X.K (dm (tot Gs F)) H ds vs → TgsD X ts ds σd Gs Q R →
    ∀ (pins : List (Addr × Obj)) (s : Shared) (us : List Value), Inv (X.tr pn xe) pins σ H s → Vals vs us → wpAny (model X.prog X.w) X.A (assignInOrder ((assignEach ts X.env).map (·.2)) us) (fun _ s' => ∃ σ' H', Inv (X.tr pn xe) pins σ' H' s' ∧ PostS X.K F Gs0 H0 Q σ' H') xe s
  | [], ds, σd, Gs, Gs0, Q, R, σ, H, H0, vs, wh, hE, k0, ob, sl, r, h => by
    obtain ⟨rfl, q⟩ := h
    cases (show vs = [] from r)
    intro pins s us I rv
    cases rv
    exact assignInOrder_nil ⟨σ, H, I, σd, Gs, ob, k0, sl, q⟩
  | t :: ts, ds, σd, Gs, Gs0, Q, R, σ, H, H0, vs, wh, hE, k0, ob, sl, r, h => by
    obtain ⟨d, r', rfl, hs, h⟩ := h
    obtain ⟨v, vr, rfl, r1, r2⟩ := r
    intro pins s us I rv
    cases rv with
    | cons q1 q2 =>
      rw [hs]
      have step := h.go (Qh := fun σ' H' => ∃ σd' G', Ob X.K (tot G' F) H' ∧ Keep (dm (tot Gs0 F)) H0 (dm (tot G' F)) H' ∧ Sl X.K (dm (tot G' F)) H' σd' σ' ∧ RDs X.K (dm (tot G' F)) H' r' vr ∧ TgsD X ts r' σd' G' Q R) wh hE k0 ob sl r1
        (fun σ' H' σd' G' ob' k' kk sl' q => ⟨σd', G', ob', k', sl', RDs.keep kk _ _ r2, q⟩)
      refine assignInOrder_cons (thn (step pins s _ I q1) fun _ s1 ⟨σ1, H1, I1, σd1, G1, ob1, k1, sl1, rr, q⟩ => ?_)
      exact tgs_run ts r' σd1 G1 Gs0 Q R σ1 H1 H0 vr wh hE k1 ob1 sl1 rr q pins s1 _ I1 q2
theorem tg_tup {ts : List Expr} {kk : Nat} {ds : List Dl.D} {Q : Sd → Pt → Prop} (hc : X.calm = true) (hl : ds.length = ts.length) (h : TgsD X ts ds σd Gs Q R)
    (hn : (assignEach ts X.env).length = ts.length := by rfl) (hst : (assignEach ts X.env).findIdx? (·.1) = none := by rfl) : TgD X (.Tuple ts kk pos) (.tup ds) σd Gs Q R := by
  intro pn xe E F σ H v wh hE ob sl r
  obtain ⟨a, vs, rfl, t, rs⟩ := tup_sq r
  have pgs : PGs (X.tr pn xe) ts (fun vs' σ' H' Q' => vs' = vs ∧ σ' = σ ∧ H' = H ∧ Q' = PostS X.K F Gs H Q) := ⟨fun pins s σ' H' vs' us Q' I rv hh => by
    obtain ⟨rfl, rfl, rfl, rfl⟩ := hh
    exact tgs_run ts ds σd Gs Gs Q R σ' H' H' vs' wh hE Keep.refl ob sl rs h pins s us I rv⟩
  exact (pg_tup (X := X.tr pn xe) (n := ts.length) hc pgs hn hst).get ⟨a, vs, rfl, t, by rw [rs.length, hl], rfl, rfl, rfl, rfl⟩
theorem s_asg {t : Expr} (h : EvD X e σd Gs (fun d G => TgD X t d σd G D.nx D.ex) D.ex) (hs : swapsWithSole [t] e pos.line X.env = pure false := by rfl) (hw : swappedStores [t] e X.env = pure none := by rfl)
    (h1 : (assignEach [t] X.env).map (·.2) = [assign t X.env] := by rfl) : StD X (.Assign [t] e pos) σd Gs D := by
  intro pn xe E F σ H wh hE ob sl
  refine (ps_asg (X := X.tr pn xe) PE.self PG.self hs hw h1).get ?_
  refine h.go wh hE Keep.refl ob sl fun v H1 d G1 ob1 k1 _ sl1 r q => ?_
  exact q.go wh hE k1 ob1 sl1 r fun σ' H' σd' G' ob' k' _ sl' q => ⟨σd', G', ob', k', sl', q⟩
/-- o[i] = v -/
def semSet (X : Cx) : TSet := fun o i v H Q => ∀ (pins : List (Addr × Obj)) (s : Shared) (σ : L2.St) (ov iv u : Value), Inv X pins σ H s → RelV o ov → RelV i iv → RelV v u → wpAny (model X.prog X.w) X.A (setItem ov iv u) (fun _ s' => ∃ H', Inv X pins σ H' s' ∧ Q H') X.xe s
theorem semSet_self : PSet X (semSet X) := fun pins s σ H o i v ov iv u Q I r1 r2 r3 h => h pins s σ ov iv u I r1 r2 r3
theorem semSet_get {t : TSet} (h : PSet X t) {o i v : V} {H : Hp} {Q : Hp → Prop} (q : t o i v H Q) : semSet X o i v H Q := fun pins s σ ov iv u I r1 r2 r3 => h pins s σ H o i v ov iv u Q I r1 r2 r3 q
theorem semSet_imp {o i v : V} {H : Hp} {Q Q' : Hp → Prop} (h : semSet X o i v H Q) (k : ∀ H', Q H' → Q' H') : semSet X o i v H Q' := fun pins s σ ov iv u I r1 r2 r3 => thn (h pins s σ ov iv u I r1 r2 r3) fun _ s' ⟨H', I', q⟩ => ⟨H', I', k _ q⟩
def SetD (X : Cx) (o i d : Dl.D) (Gs : Pt) (Q : Pt → Prop) : Prop := ∃ t : TSet, (∀ pn xe, PSet (X.tr pn xe) t) ∧ ∀ F H vo vi v, Ob X.K (tot Gs F) H → RD X.K (dm (tot Gs F)) H o vo → RD X.K (dm (tot Gs F)) H i vi → RD X.K (dm (tot Gs F)) H d v →
  t vo vi v H (fun H' => ∃ Gs', Ob X.K (tot Gs' F) H' ∧ Keep (dm (tot Gs F)) H (dm (tot Gs' F)) H' ∧ Q Gs')
theorem tg_sub {i : Expr} {d : Dl.D} {Q : Sd → Pt → Prop} (h : EvD X o σd Gs (fun x G1 => EvD X i σd G1 (fun y G2 => SetD X x y d G2 (fun G3 => Q σd G3)) R) R)
    (ha : ∀ v, assign (.Subscript o i pos) X.env v = (do
      let ov ← holding [v] (eval o X.env)
      let iv ← holding [v, ov] (eval i X.env)
      standAt pos
      holding [v, ov, iv] (setItem ov iv v)
      release [v, ov, iv] []) := by intro _; rfl) : TgD X (.Subscript o i pos) d σd Gs Q R := by
  intro pn xe E F σ H v wh hE ob sl r
  refine (pg_sub (X := X.tr pn xe) PE.self PE.self semSet_self ha).get ?_
  refine h.go wh hE Keep.refl ob sl fun vo H1 x G1 ob1 k1 _ sl1 rx h1 => ?_
  refine h1.go wh hE k1 ob1 sl1 fun vi H2 y G2 ob2 k2 k12 sl2 ry ⟨t, ht, hq⟩ => ?_
  refine semSet_imp (semSet_get (ht pn xe) (hq F H2 vo vi v ob2 (RD.keep k12 _ _ rx) ry (RD.keep k2 _ _ r))) fun H3 ⟨G3, ob3, k3, q⟩ => ?_
  exact ⟨σd, G3, ob3, k2.trans k3, sl2.keep k3, q⟩
theorem set_own {p : Addr} {ds : List Dl.D} {i : Int} {j : Nat} {d : Dl.D} {Gs' : Pt} {Q : Pt → Prop} (u : Upd Gs p (.lst ds) (.lst (ds.set j d)) Gs') (hj : ixN ds.length i = some j) (q : Q Gs') : SetD X (.ref p) (.int i) d Gs Q := by
  refine ⟨rSetL, fun pn xe => set_list, fun F H vo vi v ob ro ri rv => ?_⟩
  cases (show vo = .ref p from ro)
  cases (show vi = .int i from ri)
  obtain ⟨o, e, vs, rfl, r⟩ := ob.get u.has
  exact ⟨p, vs, i, j, rfl, rfl, e, by rw [r.length]; exact hj, Gs', ob.upd (m' := .lst (ds.set j d)) u ⟨_, rfl, r.set rv j⟩, Keep.updD u, q⟩
/-- o.f = e -/
def SfD (K : PySem.W.Frag) (x : Dl.D) (f : Str) (d : Dl.D) (Gs : Pt) (Q : Pt → Prop) : Prop := ∀ F H vx v, Ob K (tot Gs F) H → RD K (dm (tot Gs F)) H x vx → RD K (dm (tot Gs F)) H d v →
  ∃ a C dx fs, vx = .ref a ∧ H a = some (.ins C dx fs) ∧ Cls K C ∧ NoAttr K C f ∧ fs.length < 1000 ∧ ∃ Gs', Ob K (tot Gs' F) (L2.upd H a (.ins C dx (putF f v fs))) ∧ Keep (dm (tot Gs F)) H (dm (tot Gs' F)) (L2.upd H a (.ins C dx (putF f v fs))) ∧ Q Gs'
theorem s_fld {f : Str} {pos' : Pos} (h : EvD X e σd Gs (fun d G1 => EvD X o σd G1 (fun x G2 => SfD X.K x f d G2 (fun G3 => D.nx σd G3)) D.ex) D.ex)
    (hs : swapsWith e (some (.Attribute o f pos')) pos.line X.env = pure false := by rfl) : StD X (.Assign [.Attribute o f pos'] e pos) σd Gs D := by
  intro pn xe E F σ H wh hE ob sl
  refine (ps_fld (X := X.tr pn xe) PE.self PE.self hs).get ?_
  refine h.go wh hE Keep.refl ob sl fun v H1 d G1 ob1 k1 _ sl1 r h1 => ?_
  refine h1.go wh hE k1 ob1 sl1 fun vx H2 x G2 ob2 k2 k12 sl2 rx hq => ?_
  obtain ⟨a, C, dx, fs, e1, e2, e3, e4, e5, G3, ob3, k3, q⟩ := hq F H2 vx v ob2 rx (RD.keep k12 _ _ r)
  exact ⟨a, C, dx, fs, e1, e2, e3, e4, e5, σd, G3, ob3, k2.trans k3, sl2.keep k3, q⟩
theorem RDs.lt {N : List Addr} {H : Hp} {ds : List Dl.D} {vs : List V} {j : Nat} {d : Dl.D} (r : RDs K N H ds vs) (h : ds[j]? = some d) : j < vs.length := by
  rw [r.length]
  exact (List.getElem?_eq_some_iff.mp h).1
theorem sf_old {p C : Addr} {ns : List Str} {ds : List Dl.D} {f : Str} {d : Dl.D} {Gs' : Pt} {Q : Pt → Prop} (j : Nat) (T : ClsI K C ns) (u : Upd Gs p (.ins C ns ds) (.ins C ns (ds.set j d)) Gs') (hj : ns[j]? = some f) (hd : j < ds.length) (hz : ns.length < 1000) (q : Q Gs') : SfD K (.ref p) f d Gs Q := by
  intro F H vx v ob rx rv
  cases (show vx = .ref p from rx)
  obtain ⟨o, e, dx, vs, rfl, hl, rs⟩ := ob.get u.has
  have hj' : j < vs.length := by rw [rs.length]; exact hd
  refine ⟨p, C, dx, _, rfl, e, T.cl, T.na f (List.mem_of_getElem? hj), ?_, Gs', ?_, Keep.updD u, q⟩
  · rw [List.length_zip]
    omega
  · refine ob.upd (m' := .ins C ns (ds.set j d)) u ⟨dx, vs.set j v, ?_, by rw [List.length_set]; exact hl, rs.set rv j⟩
    rw [putF_zip T.nd hj hj']
/-- an attribute set for the first time: ns the class's attributes in the order of __init__ -/
theorem sf_new {p C : Addr} {ns : List Str} {ds : List Dl.D} {f : Str} {d : Dl.D} {Gs' : Pt} {Q : Pt → Prop} (j : Nat) (T : ClsI K C ns) (u : Upd Gs p (.ins C (ns.take j) ds) (.ins C (ns.take (j + 1)) (ds ++ [d])) Gs') (hj : ns[j]? = some f) (hl : ds.length = j) (hz : ns.length < 1000) (q : Q Gs') : SfD K (.ref p) f d Gs Q := by
  intro F H vx v ob rx rv
  cases (show vx = .ref p from rx)
  obtain ⟨o, e, dx, vs, rfl, hl', rs⟩ := ob.get u.has
  have hjn : j < ns.length := (List.getElem?_eq_some_iff.mp hj).1
  have hno : f ∉ ns.take j := by
    have e1 : ns.take (j + 1) = ns.take j ++ [f] := by
      rw [List.take_add_one, hj]
      rfl
    have nd : (ns.take (j + 1)).Nodup := T.nd.sublist (List.take_sublist _ _)
    rw [e1] at nd
    intro hm
    exact (List.nodup_append.mp nd).2.2 f hm f (by simp) rfl
  have ez : ns.take (j + 1) = ns.take j ++ [f] := by
    rw [List.take_add_one, hj]
    rfl
  refine ⟨p, C, dx, _, rfl, e, T.cl, T.na f (List.mem_of_getElem? hj), ?_, Gs', ?_, Keep.updD u, q⟩
  · rw [List.length_zip, List.length_take]
    omega
  · refine ob.upd (m' := .ins C (ns.take (j + 1)) (ds ++ [d])) u ⟨dx, vs ++ [v], ?_, ?_, rs.append (RDs.one rv)⟩
    · rw [putF_new hno hl', ez]
    · rw [ez, List.length_append, List.length_append, hl']
      rfl
end
end Dl
namespace Dl
open PySem PySem.Spec PyProof.Rows L2
section
variable {X : Cx} {P : Program} {w : World} {K : PySem.W.Frag} {mg : Str → Option Value} {base : Heap} {sc : Scope} {N : List Str} {Vs : List Nat} {GN : List Str} {k : Nat}
variable {σd : Sd} {Gs : Pt} {Q : QD} {R : RX} {D : DE} {e a b c o tg iter : Expr} {es rest body : List Expr} {st : Stmt} {sts : List Stmt} {pos p2 apos cpos : Pos}

/-! ### what a loop walks -/
/-- J yields the values of ds one after another, as long as «stay» holds -/
def JD (K : PySem.W.Frag) (F : List Cell) (G1 : Pt) (H1 : Hp) (stay : Pt → Prop) (J : It) (ds : List Dl.D) : Prop := ∀ (i : Nat) (G : Pt) (H : Hp) (Fx : List Cell), Ob K (tot G (Fx ++ F)) H → Keep (dm (tot G1 F)) H1 (dm (tot G (Fx ++ F))) H → stay G →
  (∀ d, ds[i]? = some d → J.go i H ∧ ∀ x H', J.yld i H x H' → Ob K (tot G (Fx ++ F)) H' ∧ Keep (dm (tot G (Fx ++ F))) H (dm (tot G (Fx ++ F))) H' ∧ RD K (dm (tot G (Fx ++ F))) H' d x) ∧ (ds[i]? = none → J.stop i H)
def semPI (X : Cx) (tg iter : Expr) : TI := fun σ H R => ∀ (pins : List (Addr × Obj)) (s : Shared), Inv X pins σ H s → wpAny (model X.prog X.w) X.A (eval iter X.env) (fun v s1 => wpAny (model X.prog X.w) X.A (pyIter v) (PIE X pins σ tg R) X.xe s1) X.xe s
theorem _root_.L2.PI.self {X : Cx} {tg iter : Expr} : PI X tg iter (semPI X tg iter) := ⟨fun pins s σ H R I h => h pins s I⟩
theorem _root_.L2.PI.get {X : Cx} {tg iter : Expr} {t : TI} (h : PI X tg iter t) {σ : L2.St} {H : Hp} {R : It → Hp → Prop} (q : t σ H R) : semPI X tg iter σ H R := fun pins s I => h.run pins s σ H R I q
theorem semPI_imp {X : Cx} {tg iter : Expr} {σ : L2.St} {H : Hp} {R R' : It → Hp → Prop} (h : semPI X tg iter σ H R) (k : ∀ J H', R J H' → R' J H') : semPI X tg iter σ H R' := fun pins s I =>
  thn (h pins s I) fun v s1 h1 => thn h1 fun itv s2 ⟨it, fp, tn, J, H', e, I', T, t0, f, q⟩ => ⟨it, fp, tn, J, H', e, I', T, t0, f, k _ _ q⟩
def ItE (X : Cx) (tg iter : Expr) (σd : Sd) (Gs : Pt) (Q : List Dl.D → (Pt → Prop) → Pt → Prop) (R : RX) : Prop :=
  ∀ pn xe E F σ H, Wh X pn xe E → (∀ c od H', Wx X.K F Gs H R c od H' → E c od H') → Ob X.K (tot Gs F) H → Sl X.K (dm (tot Gs F)) H σd σ →
    semPI (X.tr pn xe) tg iter σ H (fun J H1 => ∃ ds stay G1, Ob X.K (tot G1 F) H1 ∧ Keep (dm (tot Gs F)) H (dm (tot G1 F)) H1 ∧ JD X.K F G1 H1 stay J ds ∧ Q ds stay G1)
theorem jd_list {F : List Cell} {G1 : Pt} {H1 : Hp} {a : Addr} {ds : List Dl.D} {vs : List V} {stay : Pt → Prop} (h : ∀ G H (Fx : List Cell), Ob K (tot G (Fx ++ F)) H → Keep (dm (tot G1 F)) H1 (dm (tot G (Fx ++ F))) H → stay G → ∃ vs, SqL K H a vs ∧ RDs K (dm (tot G (Fx ++ F))) H ds vs) : JD K F G1 H1 stay (Itl K a) ds := by
  intro i G H Fx ob kp st
  obtain ⟨vs, hq, r⟩ := h G H Fx ob kp st
  refine ⟨fun d hd => ?_, fun hd => ⟨vs, hq, ?_⟩⟩
  · obtain ⟨v, hv, rv⟩ := r.get hd
    refine ⟨⟨vs, v, hq, hv⟩, fun x H' ⟨e1, e2⟩ => ?_⟩
    subst e1
    have e3 := e2 vs hq
    rw [hv] at e3
    cases e3
    exact ⟨ob, Keep.refl, rv⟩
  · rw [r.length]
    exact List.getElem?_eq_none_iff.mp hd
theorem it_lst {Q : List Dl.D → (Pt → Prop) → Pt → Prop} (h : EvD X iter σd Gs (fun x G => ∃ ds, x = .lst ds ∧ Q ds (fun _ => True) G) R) : ItE X tg iter σd Gs Q R := by
  intro pn xe E F σ H wh hE ob sl
  refine (pi_list (X := X.tr pn xe) PE.self).get ?_
  refine h.go wh hE Keep.refl ob sl fun v H1 x G1 ob1 k1 _ sl1 rx ⟨ds, ex, q⟩ => ?_
  subst ex
  obtain ⟨a, vs, rfl, n, t, r⟩ := rx
  refine ⟨a, rfl, ⟨vs, .inl (.inl t)⟩, ds, _, G1, ob1, k1, jd_list (vs := vs) fun G H' Fx ob' kp _ => ?_, q⟩
  obtain ⟨t', n'⟩ := kp a _ t n
  exact ⟨vs, .inl (.inl t'), RDs.keep kp _ _ r⟩
theorem it_own {Q : List Dl.D → (Pt → Prop) → Pt → Prop} (h : EvD X iter σd Gs (fun x G => ∃ p ds, x = .ref p ∧ Has G p (.lst ds) ∧ Q ds (fun G' => Has G' p (.lst ds)) G) R) : ItE X tg iter σd Gs Q R := by
  intro pn xe E F σ H wh hE ob sl
  refine (pi_list (X := X.tr pn xe) PE.self).get ?_
  refine h.go wh hE Keep.refl ob sl fun v H1 x G1 ob1 k1 _ sl1 rx ⟨p, ds, ex, hp, q⟩ => ?_
  subst ex
  cases (show v = .ref p from rx)
  obtain ⟨o, e, vs, rfl, r⟩ := ob1.get hp
  refine ⟨p, rfl, ⟨vs, .inl (.inl e)⟩, ds, _, G1, ob1, k1, jd_list (vs := vs) fun G H' Fx ob' kp st => ?_, q⟩
  obtain ⟨o, e, vs, rfl, r⟩ := ob'.get st
  exact ⟨vs, .inl (.inl e), r⟩
theorem it_tup {Q : List Dl.D → (Pt → Prop) → Pt → Prop} (h : EvD X iter σd Gs (fun x G => ∃ ds, x = .tup ds ∧ Q ds (fun _ => True) G) R) : ItE X tg iter σd Gs Q R := by
  intro pn xe E F σ H wh hE ob sl
  refine (pi_tup (X := X.tr pn xe) PE.self).get ?_
  refine h.go wh hE Keep.refl ob sl fun v H1 x G1 ob1 k1 _ sl1 rx ⟨ds, ex, q⟩ => ?_
  subst ex
  have rx0 := rx
  obtain ⟨a, vs, rfl, t, r⟩ := tup_sq rx
  refine ⟨a, rfl, ⟨vs, t⟩, ds, _, G1, ob1, k1, ?_, q⟩
  intro i G H' Fx ob' kp st
  have rx' := RD.keep kp _ _ rx0
  obtain ⟨a', vs', e', t', r'⟩ := tup_sq rx'
  cases e'
  refine ⟨fun d hd => ?_, fun hd => ⟨vs', t', ?_⟩⟩
  · obtain ⟨v, hv, rv⟩ := r'.get hd
    refine ⟨⟨vs', v, t', hv⟩, fun x H'' ⟨e1, e2⟩ => ?_⟩
    subst e1
    have e3 := e2 vs' t'
    rw [hv] at e3
    cases e3
    exact ⟨ob', Keep.refl, rv⟩
  · rw [r'.length]
    exact List.getElem?_eq_none_iff.mp hd
def rngL (lo : Int) (n : Nat) : List Dl.D := (List.range n).map fun i => .int (lo + (i : Nat))
theorem jd_rng {F : List Cell} {G1 : Pt} {H1 : Hp} {lo : Int} {n : Nat} {stay : Pt → Prop} : JD K F G1 H1 stay (Itr lo n) (rngL lo n) := by
  intro i G H Fx ob kp st
  unfold rngL
  refine ⟨fun d hd => ?_, fun hd => ?_⟩
  · rw [List.getElem?_map] at hd
    cases e : (List.range n)[i]? with
    | none => rw [e] at hd; cases hd
    | some j =>
      rw [e] at hd
      obtain ⟨hi, ej⟩ := List.getElem?_eq_some_iff.mp e
      rw [List.getElem_range] at ej
      subst ej
      rw [List.length_range] at hi
      have ed : Dl.D.int (lo + (i : Nat)) = d := Option.some.inj hd
      subst ed
      exact ⟨hi, fun x H' ⟨e1, e2⟩ => by subst e1 e2; exact ⟨ob, Keep.refl, rfl⟩⟩
  · have h := List.getElem?_eq_none_iff.mp hd
    rw [List.length_map, List.length_range] at h
    exact h
theorem it_rng1 {Q : List Dl.D → (Pt → Prop) → Pt → Prop} {p : Pos} {j : Nat} (B : Bd X P w K mg base sc N Vs GN k) (hm : mg "range" = none) (hG : GN[j]? = some ("range" : Str)) (h : EvA X [a] σd Gs (fun ds G => ∃ n : Int, ds = [.int n] ∧ -(2 ^ 62) ≤ n ∧ n < 2 ^ 62 ∧ Q (rngL 0 n.toNat) (fun _ => True) G) R)
    (hs : starEach [a] X.env = [(false, eval a X.env)] := by rfl) : ItE X tg (.Call (.Name "range" p) [a] [] pos) σd Gs Q R := by
  intro pn xe E F σ H wh hE ob sl
  obtain ⟨g1, g2, g3⟩ := B.nm.gl j _ hG
  refine (pi_range1 (X := X.tr pn xe) g1 (by rw [show (X.tr pn xe).mg = mg from B.em]; exact hm) PA.self hs).get ?_
  refine h.go wh hE Keep.refl ob sl fun v H1 x G1 ob1 k1 _ sl1 rx ⟨n, ex, h1, h2, q⟩ => ?_
  subst ex
  obtain ⟨_, _, rfl, rfl, rfl⟩ := rx
  exact ⟨n, rfl, h1, h2, _, _, G1, ob1, k1, jd_rng, q⟩
theorem it_rng2 {Q : List Dl.D → (Pt → Prop) → Pt → Prop} {p : Pos} {j : Nat} (B : Bd X P w K mg base sc N Vs GN k) (hm : mg "range" = none) (hG : GN[j]? = some ("range" : Str))
    (h : EvA X [a, b] σd Gs (fun ds G => ∃ m n : Int, ds = [.int m, .int n] ∧ -(2 ^ 62) ≤ m ∧ m < 2 ^ 62 ∧ -(2 ^ 62) ≤ n ∧ n < 2 ^ 62 ∧ Q (rngL m (n - m).toNat) (fun _ => True) G) R)
    (hs : starEach [a, b] X.env = [(false, eval a X.env), (false, eval b X.env)] := by rfl) (hs2 : starEach [b] X.env = [(false, eval b X.env)] := by rfl) : ItE X tg (.Call (.Name "range" p) [a, b] [] pos) σd Gs Q R := by
  intro pn xe E F σ H wh hE ob sl
  obtain ⟨g1, g2, g3⟩ := B.nm.gl j _ hG
  refine (pi_range2 (X := X.tr pn xe) g1 (by rw [show (X.tr pn xe).mg = mg from B.em]; exact hm) PA.self hs hs2).get ?_
  refine h.go wh hE Keep.refl ob sl fun v H1 x G1 ob1 k1 _ sl1 rx ⟨m, n, ex, l1, l2, l3, l4, q⟩ => ?_
  subst ex
  obtain ⟨_, _, rfl, rfl, _, _, rfl, rfl, rfl⟩ := rx
  exact ⟨m, n, rfl, ⟨l1, l2, l3, l4⟩, _, _, G1, ob1, k1, jd_rng, q⟩
def sgnL (x : Str) : List Dl.D := x.cps.toList.map fun ch => .str ⟨#[ch]⟩
theorem it_str {Q : List Dl.D → (Pt → Prop) → Pt → Prop} (h : EvD X iter σd Gs (fun x G => ∃ z, x = .str z ∧ Q (sgnL z) (fun _ => True) G) R) : ItE X tg iter σd Gs Q R := by
  intro pn xe E F σ H wh hE ob sl
  refine (pi_str (X := X.tr pn xe) PE.self).get ?_
  refine h.go wh hE Keep.refl ob sl fun v H1 x G1 ob1 k1 _ sl1 rx ⟨z, ex, q⟩ => ?_
  subst ex
  cases (show v = .str z from rx)
  refine ⟨z, rfl, _, _, G1, ob1, k1, ?_, q⟩
  intro i G H' Fx ob' kp st
  unfold sgnL
  refine ⟨fun d hd => ?_, fun hd => ?_⟩
  · rw [List.getElem?_map] at hd
    cases e : z.cps.toList[i]? with
    | none => rw [e] at hd; cases hd
    | some ch =>
      rw [e] at hd
      have ed : Dl.D.str ⟨#[ch]⟩ = d := Option.some.inj hd
      subst ed
      have e' : z.cps[i]? = some ch := by
        rw [Array.getElem?_toList] at e
        exact e
      refine ⟨(Array.getElem?_eq_some_iff.mp e').1, fun x H'' ⟨e1, ch', e2, e3⟩ => ?_⟩
      subst e1
      rw [e'] at e2
      cases e2
      exact ⟨ob', Keep.refl, e3⟩
  · have h := List.getElem?_eq_none_iff.mp hd
    rw [List.length_map, Array.length_toList] at h
    exact h

/-! ### for -/
theorem drop_cons {α : Type} {ds : List α} {i : Nat} {d : α} (h : ds[i]? = some d) : ds.drop i = d :: ds.drop (i + 1) := by
  obtain ⟨hi, e⟩ := List.getElem?_eq_some_iff.mp h
  rw [List.drop_eq_getElem_cons hi, e]
/-- the invariant by what is left of the values -/
theorem s_for {body : List Stmt} (B : Bd X P w K mg base sc N Vs GN k)
    (h : ItE X tg iter σd Gs (fun ds stay G1 => ∃ I : List Dl.D → Sd → Pt → Prop, I ds σd G1 ∧
      (∀ d r σ' G', I (d :: r) σ' G' → stay G' ∧ TgD X tg d σ' G' (fun σ2 G2 => SsD X body σ2 G2 { D with nx := I r, ct := I r, bk := D.nx }) D.ex) ∧ (∀ σ' G', I [] σ' G' → stay G' ∧ D.nx σ' G')) D.ex)
    (hs : ∀ x, foldedSetIterable iter X.env x = pure x := by intro _; rfl) : StD X (.For tg iter body [] pos) σd Gs D := by
  intro pn xe E F σ H wh hE ob sl
  refine (ps_for (X := X.tr pn xe) wh.po B.calm PI.self PG.self PSs.self hs).get ?_
  refine semPI_imp (h pn xe E F σ H wh hE ob sl) fun J H1 ⟨ds, stay, G1, ob1, k1, jd, I, i0, turn, done⟩ => ?_
  refine ⟨fun i m σ' H' => m = ds.length - i ∧ i ≤ ds.length ∧ ∃ σd' G', Ob X.K (tot G' F) H' ∧ Keep (dm (tot G1 F)) H1 (dm (tot G' F)) H' ∧ Sl X.K (dm (tot G' F)) H' σd' σ' ∧ I (ds.drop i) σd' G', ⟨_, rfl, Nat.zero_le _, σd, G1, ob1, Keep.refl, sl.keep k1, i0⟩, ?_⟩
  rintro i m σ' H' ⟨rfl, hi, σd', G', ob', k', sl', hI⟩
  by_cases hlt : i < ds.length
  · have hd : ds[i]? = some ds[i] := List.getElem?_eq_getElem hlt
    rw [drop_cons hd] at hI
    obtain ⟨st, ht⟩ := turn _ _ _ _ hI
    obtain ⟨hgo, hy⟩ := (jd i G' H' [] ob' k' st).1 _ hd
    refine .inr ⟨hgo, fun σ2 H2 => ∃ σd2 G2, Ob X.K (tot G2 F) H2 ∧ Keep (dm (tot G1 F)) H1 (dm (tot G2 F)) H2 ∧ Sl X.K (dm (tot G2 F)) H2 σd2 σ2 ∧ I (ds.drop (i + 1)) σd2 G2, fun σ2 H2 ⟨σd2, G2, a1, a2, a3, a4⟩ => ⟨_, by omega, rfl, hlt, σd2, G2, a1, a2, a3, a4⟩, fun x Hx y => ?_⟩
    obtain ⟨obx, kx, rx⟩ := hy x Hx y
    have kk : Keep (dm (tot Gs F)) H (dm (tot G' F)) Hx := (k1.trans k').trans kx
    refine ht.go wh hE kk obx (sl'.keep kx) rx fun σ2 H2 σd2 G2 ob2 k2 k2x sl2 hb => ?_
    refine (hb pn xe E F σ2 H2 wh (fun c od H3 wx => hE c od H3 (wx.trans k2)) ob2 sl2).imp ⟨fun σ3 H3 ⟨σd3, G3, ob3, k3, sl3, q⟩ => ⟨σd3, G3, ob3, ((k'.trans kx).trans k2x).trans k3, sl3, q⟩, fun v H3 p => p.trans k2, fun σ3 H3 p => p.trans k2, fun σ3 H3 ⟨σd3, G3, ob3, k3, sl3, q⟩ => ⟨σd3, G3, ob3, ((k'.trans kx).trans k2x).trans k3, sl3, q⟩⟩
  · have hd : ds[i]? = none := List.getElem?_eq_none_iff.mpr (by omega)
    have e : ds.drop i = [] := List.drop_eq_nil_of_le (by omega)
    rw [e] at hI
    obtain ⟨st, q⟩ := done _ _ hI
    exact .inl ⟨(jd i G' H' [] ob' k' st).2 hd, σd', G', ob', k1.trans k', sl', q⟩
/-- while: the invariant with a number that falls -/
theorem s_while {body : List Stmt} {c : Expr} (I : Nat → Sd → Pt → Prop) (m0 : Nat) (h0 : I m0 σd Gs)
    (h : ∀ m σ' G', I m σ' G' → EvT X c σ' G' (fun t G2 => (t = true → SsD X body σ' G2 { D with nx := fun σ3 G3 => ∃ m', m' < m ∧ I m' σ3 G3, ct := fun σ3 G3 => ∃ m', m' < m ∧ I m' σ3 G3, bk := D.nx }) ∧ (t = false → D.nx σ' G2)) D.ex) : StD X (.While c body [] pos) σd Gs D := by
  intro pn xe E F σ H wh hE ob sl
  refine (ps_while (X := X.tr pn xe) wh.po PT.self PSs.self).get ?_
  refine ⟨fun m σ' H' => ∃ σd' G', Ob X.K (tot G' F) H' ∧ Keep (dm (tot Gs F)) H (dm (tot G' F)) H' ∧ Sl X.K (dm (tot G' F)) H' σd' σ' ∧ I m σd' G', ⟨m0, σd, Gs, ob, Keep.refl, sl, h0⟩, ?_⟩
  rintro m σ' H' ⟨σd', G', ob', k', sl', hI⟩
  refine (h m σd' G' hI).go wh hE k' ob' sl' fun t H2 G2 ob2 k2 k22 sl2 q => ?_
  cases t with
  | true =>
    rw [if_pos rfl]
    refine ⟨fun σ3 H3 => ∃ σd3 G3, Ob X.K (tot G3 F) H3 ∧ Keep (dm (tot Gs F)) H (dm (tot G3 F)) H3 ∧ Sl X.K (dm (tot G3 F)) H3 σd3 σ3 ∧ ∃ m', m' < m ∧ I m' σd3 G3, fun σ3 H3 ⟨σd3, G3, a1, a2, a3, m', hm, a4⟩ => ⟨m', hm, σd3, G3, a1, a2, a3, a4⟩, ?_⟩
    refine (q.1 rfl pn xe E F σ' H2 wh (fun c od H3 wx => hE c od H3 (wx.trans k2)) ob2 sl2).imp ⟨fun σ3 H3 p => p.trans k2, fun v H3 p => p.trans k2, fun σ3 H3 p => p.trans k2, fun σ3 H3 p => p.trans k2⟩
  | false =>
    rw [if_neg Bool.false_ne_true]
    exact ⟨σd', G2, ob2, k2, sl2, q.2 rfl⟩
end
end Dl
namespace Dl
open PySem PySem.Spec PyProof.Rows L2

/-! ### list comprehensions -/
def wipeD (σ : Sd) : List Nat → Sd
  | [] => σ
  | v :: vs => (wipeD σ vs).set v none
theorem wipeD_length (σ : Sd) : ∀ vs : List Nat, (wipeD σ vs).length = σ.length
  | [] => rfl
  | v :: vs => by unfold wipeD; rw [List.length_set, wipeD_length σ vs]
theorem wipeD_some {σ : Sd} {i : Nat} {x : D} : ∀ {vs : List Nat}, (wipeD σ vs)[i]? = some (some x) → σ[i]? = some (some x) ∧ i ∉ vs
  | [], h => ⟨h, by simp⟩
  | v :: vs, h => by
    unfold wipeD at h
    by_cases hi : v = i
    · subst hi
      by_cases hv : v < (wipeD σ vs).length
      · rw [List.getElem?_set_self hv] at h; cases h
      · rw [List.getElem?_eq_none (by simpa using hv)] at h; cases h
    · rw [List.getElem?_set_ne hi] at h
      obtain ⟨h1, h2⟩ := wipeD_some h
      exact ⟨h1, fun z => (List.mem_cons.mp z).elim (fun q => hi q.symm) h2⟩
theorem wipe_in {σ : L2.St} {i : Nat} : ∀ {vs : List Nat}, i ∈ vs → i < σ.length → (wipe σ vs)[i]? = some none
  | v :: vs, h, hl => by
    unfold wipe
    by_cases hi : v = i
    · subst hi
      exact List.getElem?_set_self (by rw [wipe_length]; exact hl)
    · rw [List.getElem?_set_ne hi]
      exact wipe_in ((List.mem_cons.mp h).resolve_left fun z => hi z.symm) hl
theorem wipe_eq {σ τ : L2.St} {vs : List Nat} (hl : τ.length = σ.length) (h : ∀ i, i ∉ vs → τ[i]? = σ[i]?) : wipe τ vs = wipe σ vs := by
  apply List.ext_getElem?
  intro i
  by_cases hi : i ∈ vs
  · by_cases hl' : i < σ.length
    · rw [wipe_in hi hl', wipe_in hi (by omega)]
    · rw [List.getElem?_eq_none (by rw [wipe_length]; omega), List.getElem?_eq_none (by rw [wipe_length]; omega)]
  · rw [wipe_out hi, wipe_out hi]
    exact h i hi
theorem wipe_set {σ : L2.St} {vs : List Nat} {j : Nat} {x : Option V} (hj : j ∈ vs) : wipe ((wipe σ vs).set j x) vs = wipe σ vs := by
  refine wipe_eq (by rw [List.length_set, wipe_length]) fun i hi => ?_
  rw [List.getElem?_set_ne (show j ≠ i from fun z => hi (by rw [← z]; exact hj)), wipe_out hi]
theorem wipe_set2 {σ : L2.St} {vs : List Nat} {j l : Nat} {x y : Option V} (hj : j ∈ vs) (hl : l ∈ vs) : wipe (((wipe σ vs).set j x).set l y) vs = wipe σ vs := by
  refine wipe_eq (by rw [List.length_set, List.length_set, wipe_length]) fun i hi => ?_
  rw [List.getElem?_set_ne (show l ≠ i from fun z => hi (by rw [← z]; exact hl)), List.getElem?_set_ne (show j ≠ i from fun z => hi (by rw [← z]; exact hj)), wipe_out hi]
theorem Sl.wipe {K : PySem.W.Frag} {N : List Addr} {H : Hp} {σd : Sd} {σ : L2.St} (s : Sl K N H σd σ) (vs : List Nat) : Sl K N H (wipeD σd vs) (L2.wipe σ vs) := by
  refine ⟨by rw [wipeD_length, wipe_length]; exact s.1, fun i d e => ?_⟩
  obtain ⟨e1, hi⟩ := wipeD_some e
  obtain ⟨v, hv, r⟩ := s.2 i d e1
  exact ⟨v, by rw [wipe_out hi]; exact hv, r⟩
/-- the names of a comprehension's block -/
def blkNC (scope sc : Scope) (N : List Str) (V : List Nat) (GN : List Str) : Bool :=
  namesC (relS scope sc) N V GN && (N.zip V).all fun p => p.2 != 2 || (match (relS scope sc).names.lookup p.1 with | some .local => true | _ => false)
def IfsD (Y : Cx) (ifs : List Expr) (σd : Sd) (Gs : Pt) (Q : QT) : Prop := match ifs with
  | [] => Q true Gs
  | [c] => EvT Y c σd Gs Q R0
  | _ => False
section
variable {X : Cx} {P : Program} {w : World} {K : PySem.W.Frag} {mg : Str → Option Value} {base : Heap} {sc : Scope} {N : List Str} {Vs : List Nat} {GN : List Str} {k : Nat}
variable {σd : Sd} {Gs : Pt} {Q : QD} {R : RX} {e a b c o tg iter elt : Expr} {pos p2 apos cpos : Pos}
theorem bd_blk {scope : Scope} {V' : List Nat} {GN' : List Str} (B : Bd X P w K mg base sc N Vs GN k) (hn : blkNC scope sc N V' GN' = true) (s : Shared) (H : Hp) (C : Addr) (cl : List (Str × Addr)) (fp : List Addr) :
    Bd (X.blk s H scope (compEnvC scope cl C X.env) fp) P w K mg base (relS scope sc) N V' GN' k := by
  unfold blkNC at hn
  rw [Bool.and_eq_true] at hn
  obtain ⟨n1, n2⟩ := hn
  have es : (X.blk s H scope (compEnvC scope cl C X.env) fp).env.scope = relS scope sc := by
    show relS scope X.env.scope = _
    rw [B.eS]
  refine ⟨B.eP, B.ew, B.eK, B.em, B.eb, B.eN, es, B.nd, B.calm, B.room, B.gd, names_of (by rw [es]; exact n1), fun i x h1 h2 => .inr ?_⟩
  rw [es]
  have z := List.all_eq_true.mp n2 _ (zip_mem h1 h2)
  simp only [bne_self_eq_false, Bool.false_or] at z
  split at z
  · assumption
  · cases z
theorem perm_shift {c : Cell} {G : Pt} {F : List Cell} : (tot G ([c] ++ F)).Perm (tot ([c] :: G) F) := by
  unfold tot
  rw [List.flatten_cons]
  show (G.flatten ++ ([c] ++ F)).Perm (([c] ++ G.flatten) ++ F)
  rw [← List.append_assoc]
  exact (List.perm_append_comm (l₁ := G.flatten) (l₂ := [c])).append_right F
theorem mt_shift {c : Cell} {G : Pt} {F : List Cell} {x : Addr} (h : x ∉ dm (tot ([c] :: G) F)) : x ∉ dm (tot G ([c] ++ F)) := fun z => h ((perm_shift.map (fun c : Cell => c.1)).mem_iff.mp z)
theorem mt_unshift {c : Cell} {G : Pt} {F : List Cell} {x : Addr} (h : x ∉ dm (tot G ([c] ++ F))) : x ∉ dm (tot ([c] :: G) F) := fun z => h ((perm_shift.map (fun c : Cell => c.1)).mem_iff.mpr z)
theorem Ob.down {c : Cell} {G : Pt} {F : List Cell} {H : Hp} (ob : Ob K (tot ([c] :: G) F) H) : Ob K (tot G ([c] ++ F)) H := ob.perm perm_shift
theorem Ob.up {c : Cell} {G : Pt} {F : List Cell} {H : Hp} (ob : Ob K (tot G ([c] ++ F)) H) : Ob K (tot ([c] :: G) F) H := ob.perm perm_shift.symm
theorem wh_blk {X : Cx} {s : Shared} {H : Hp} {scope : Scope} {cenv : Env} {fp : List Addr} : Wh (X.blk s H scope cenv fp) [] (fun _ _ => False) (fun _ _ _ => False) := ⟨takes0, PassesOwn.never⟩
/-- a target of a comprehension: by values at the slots vs -/
structure CTg (X : Cx) (tg : Expr) (scope : Scope) (vs : List Nat) (g : TG) (ok : Dl.D → Prop) (put : Sd → Dl.D → Sd) : Prop where
  pg : ∀ (s : Shared) (H : Hp) (C : Addr) (cl : List (Str × Addr)) (fp : List Addr), PG (X.blk s H scope (compEnvC scope cl C X.env) fp) tg g
  go : ∀ (N : List Addr) (H : Hp) (d : Dl.D) (v : V) (σd : Sd) (σ : L2.St), RD X.K N H d v → ok d → Sl X.K N H (wipeD σd vs) (L2.wipe σ vs) → ∀ Qh : L2.St → Hp → Prop,
    (∀ σ2, Sl X.K N H (put (wipeD σd vs) d) σ2 → L2.wipe σ2 vs = L2.wipe σ vs → Qh σ2 H) → g v (L2.wipe σ vs) H Qh
def lcT (X : Cx) (scope : Scope) (ifs : List Expr) : TT := fun σ H Q => ∀ (s : Shared) (H0 : Hp) (C : Addr) (cl : List (Str × Addr)) (fp : List Addr) (pins : List (Addr × Obj)) (s1 : Shared), Inv (X.blk s H0 scope (compEnvC scope cl C X.env) fp) pins σ H s1 →
      ∃ t, PTs (X.blk s H0 scope (compEnvC scope cl C X.env) fp) ifs t ∧ t σ H Q
def lcE (X : Cx) (scope : Scope) (elt : Expr) : TE := fun σ H Q => ∀ (s : Shared) (H0 : Hp) (C : Addr) (cl : List (Str × Addr)) (fp : List Addr), sem (X.blk s H0 scope (compEnvC scope cl C X.env) fp) elt σ H Q
def LcI (X : Cx) (P : Program) (w : World) (K : PySem.W.Frag) (mg : Str → Option Value) (base : Heap) (sc : Scope) (N : List Str) (k : Nat) (tg iter elt : Expr) (ifs : List Expr) (scope : Scope) (vs : List Nat) (V' : List Nat) (GN' : List Str) (ok : Dl.D → Prop) (put : Sd → Dl.D → Sd) (σd : Sd) (Gs : Pt) (Q : QD) (R : RX) : Prop :=
  ItE X tg iter σd Gs (fun ds stay G1 => ∃ I : List Dl.D → List Dl.D → Pt → Prop, I ds [] G1 ∧
      (∀ d r acc G', I (d :: r) acc G' → stay G' ∧ ok d ∧ ∀ Y, Bd Y P w K mg base (relS scope sc) N V' GN' k → IfsD Y ifs (put (wipeD σd vs) d) G' (fun t G3 =>
        (t = true → ∀ Y, Bd Y P w K mg base (relS scope sc) N V' GN' k → EvD Y elt (put (wipeD σd vs) d) G3 (fun y G4 => acc.length < sizeLine ∧ I r (acc ++ [y]) G4) R0) ∧ (t = false → I r acc G3))) ∧ (∀ acc G', I [] acc G' → stay G' ∧ Q (.lst acc) G')) R
theorem lc_read {ifs : List Expr} {scope : Scope} {own : List (Str × Nat)} {V' : List Nat} {GN' : List Str} {g : TG} {ok : Dl.D → Prop} {put : Sd → Dl.D → Sd} (B : Bd X P w K mg base sc N Vs GN k) (hb : blkC N sc scope own = true) (hn : blkNC scope sc N V' GN' = true)
    (T : CTg X tg scope (own.map (·.2)) g ok put)
    (h : LcI X P w K mg base sc N k tg iter elt ifs scope (own.map (·.2)) V' GN' ok put σd Gs Q R) {pn : List (Addr × Obj)} {xe : Value → Shared → Prop} {E : XK} {F : List Cell} {σ : L2.St} {H : Hp} (wh : Wh X pn xe E) (hE : ∀ c od H', Wx X.K F Gs H R c od H' → E c od H') (ob : Ob X.K (tot Gs F) H) (sl : Sl X.K (dm (tot Gs F)) H σd σ) :
    tLc (semPI (X.tr pn xe) tg iter) g (lcT X scope ifs) (lcE X scope elt) (own.map (·.2)) σ H (Post X.K F Gs H Q) := by
  refine semPI_imp (h pn xe E F σ H wh hE ob sl) fun J H1 ⟨ds, stay, G1, ob1, k1, jd, I, i0, turn, done⟩ p hp => ?_
  have obN : Ob X.K (tot ([(p, M.lst [])] :: G1) F) (L2.upd H1 p (.lst [])) := ob1.new (m := .lst []) hp ⟨[], rfl, rfl⟩
  have kN : Keep (dm (tot G1 F)) H1 (dm (tot G1 ([(p, M.lst [])] ++ F))) (L2.upd H1 p (.lst [])) := (Keep.newO (N := dm (tot G1 F)) hp).trans (Keep.self fun x hx => mt_shift (G := G1) (F := F) (c := (p, M.lst [])) hx)
  refine ⟨fun i m H' => m = ds.length - i ∧ i ≤ ds.length ∧ ∃ acc G', Ob X.K (tot G' ([(p, M.lst acc)] ++ F)) H' ∧ Keep (dm (tot G1 F)) H1 (dm (tot G' ([(p, M.lst acc)] ++ F))) H' ∧ I (ds.drop i) acc G', ⟨_, rfl, Nat.zero_le _, [], G1, obN.down, kN, i0⟩, ?_⟩
  rintro i m H' ⟨rfl, hi, acc, G', ob', k', hI⟩
  by_cases hlt : i < ds.length
  · have hd : ds[i]? = some ds[i] := List.getElem?_eq_getElem hlt
    rw [drop_cons hd] at hI
    obtain ⟨st, okd, ht⟩ := turn _ _ _ _ hI
    obtain ⟨hgo, hy⟩ := (jd i G' H' [(p, M.lst acc)] ob' k' st).1 _ hd
    refine .inr ⟨hgo, fun H2 => ∃ acc2 G2, Ob X.K (tot G2 ([(p, M.lst acc2)] ++ F)) H2 ∧ Keep (dm (tot G1 F)) H1 (dm (tot G2 ([(p, M.lst acc2)] ++ F))) H2 ∧ I (ds.drop (i + 1)) acc2 G2, fun H2 ⟨acc2, G2, a1, a2, a3⟩ => ⟨_, by omega, rfl, hlt, acc2, G2, a1, a2, a3⟩, fun x Hx y => ?_⟩
    obtain ⟨obx, kx, rx⟩ := hy x Hx y
    have slx : Sl X.K (dm (tot G' ([(p, M.lst acc)] ++ F))) Hx (wipeD σd (own.map (·.2))) (L2.wipe σ (own.map (·.2))) := (sl.keep ((k1.trans k').trans kx)).wipe _
    refine T.go _ _ _ _ _ _ rx okd slx _ fun σ2 sl2 hw => ⟨hw, fun s H0 C cl fp pins s1 I1 => ?_⟩
    have go := ht _ (bd_blk B hn s H0 C cl fp)
    -- the end of a turn
    have elm : ∀ {H3 : Hp} {G3 : Pt}, Ob X.K (tot G3 ([(p, M.lst acc)] ++ F)) H3 → Keep (dm (tot G1 F)) H1 (dm (tot G3 ([(p, M.lst acc)] ++ F))) H3 → Sl X.K (dm (tot G3 ([(p, M.lst acc)] ++ F))) H3 (put (wipeD σd (own.map (·.2))) ds[i]) σ2 →
        (∀ Y, Bd Y P w K mg base (relS scope sc) N V' GN' k → EvD Y elt (put (wipeD σd (own.map (·.2))) ds[i]) G3 (fun y G4 => acc.length < sizeLine ∧ I (ds.drop (i + 1)) (acc ++ [y]) G4) R0) →
        ∀ (s : Shared) (H0 : Hp) (C : Addr) (cl : List (Str × Addr)) (fp : List Addr), sem (X.blk s H0 scope (compEnvC scope cl C X.env) fp) elt σ2 H3 (fun y H4 => ∃ acc', H4 p = some (.lst acc') ∧ acc'.length < sizeLine ∧
          ∃ acc2 G2, Ob X.K (tot G2 ([(p, M.lst acc2)] ++ F)) (L2.upd H4 p (.lst (acc' ++ [y]))) ∧ Keep (dm (tot G1 F)) H1 (dm (tot G2 ([(p, M.lst acc2)] ++ F))) (L2.upd H4 p (.lst (acc' ++ [y]))) ∧ I (ds.drop (i + 1)) acc2 G2) := by
      intro H3 G3 ob3 k3 sl3 hel s H0 C cl fp
      refine EvD.go (X := X.blk s H0 scope (compEnvC scope cl C X.env) fp) (pn := []) (xe := fun _ _ => False) (hel _ (bd_blk B hn s H0 C cl fp)) wh_blk (fun c od H' w => ?_) Keep.refl ob3 sl3 fun y H4 d G4 ob4 _ k4 _ r4 ⟨hz, q⟩ => ?_
      · obtain ⟨_, _, _, _, _, _, _, z⟩ := w
        exact z.elim
      · obtain ⟨o, e4, vs, rfl, rv⟩ := ob4.up.get (.here .here)
        refine ⟨vs, e4, by rw [rv.length]; exact hz, acc ++ [d], G4, ?_, ?_, q⟩
        · have u : Upd ([(p, M.lst acc)] :: G4) p (.lst acc) (.lst (acc ++ [d])) ([(p, M.lst (acc ++ [d]))] :: G4) := .here .here
          have r4' : RD X.K (dm (tot ([(p, M.lst acc)] :: G4) F)) H4 d y := RD.perm (fun x hx => mt_unshift hx) _ _ r4
          exact (ob4.up.upd u (m' := .lst (acc ++ [d])) ⟨_, rfl, rv.append (RDs.one r4')⟩).down
        · have u : Upd ([(p, M.lst acc)] :: G4) p (.lst acc) (.lst (acc ++ [d])) ([(p, M.lst (acc ++ [d]))] :: G4) := .here .here
          have s1 : Keep (dm (tot G4 ([(p, M.lst acc)] ++ F))) H4 (dm (tot ([(p, M.lst acc)] :: G4) F)) H4 := Keep.self fun x hx => mt_unshift hx
          have s2 : Keep (dm (tot ([(p, M.lst acc)] :: G4) F)) H4 (dm (tot ([(p, M.lst (acc ++ [d]))] :: G4) F)) (L2.upd H4 p (.lst (vs ++ [y]))) := Keep.updD u
          have s3 : Keep (dm (tot ([(p, M.lst (acc ++ [d]))] :: G4) F)) (L2.upd H4 p (.lst (vs ++ [y]))) (dm (tot G4 ([(p, M.lst (acc ++ [d]))] ++ F))) (L2.upd H4 p (.lst (vs ++ [y]))) := Keep.self fun x hx => mt_shift hx
          exact (((k3.trans k4).trans s1).trans s2).trans s3
    match ifs, go, ht with
    | [], go, ht =>
      refine ⟨tYes, pts_nil, ?_⟩
      unfold tYes
      dsimp only
      rw [if_pos rfl]
      exact elm obx (k'.trans kx) sl2 (go.1 rfl)
    | [c], go, ht =>
      refine ⟨semT (X.blk s H0 scope (compEnvC scope cl C X.env) fp) c, pts_one PT.self, ?_⟩
      refine EvT.go (X := X.blk s H0 scope (compEnvC scope cl C X.env) fp) (pn := []) (xe := fun _ _ => False) go wh_blk (fun c od H' w => ?_) Keep.refl obx sl2 fun t H3 G3 ob3 _ k3 sl3 q => ?_
      · obtain ⟨_, _, _, _, _, _, _, z⟩ := w
        exact z.elim
      · cases t with
        | true =>
          rw [if_pos rfl]
          exact elm ob3 ((k'.trans kx).trans k3) sl3 (q.1 rfl)
        | false =>
          rw [if_neg Bool.false_ne_true]
          exact ⟨acc, G3, ob3, (k'.trans kx).trans k3, q.2 rfl⟩
    | _ :: _ :: _, go, ht => exact go.elim
  · have hd : ds[i]? = none := List.getElem?_eq_none_iff.mpr (by omega)
    have e : ds.drop i = [] := List.drop_eq_nil_of_le (by omega)
    rw [e] at hI
    obtain ⟨st, q⟩ := done _ _ hI
    refine .inl ⟨(jd i G' H' [(p, M.lst acc)] ob' k' st).2 hd, .lst acc, G', ?_, ?_, ?_, q⟩
    · exact ob'.up.sub (List.sublist_cons_self _ _)
    · exact (k1.trans k').trans (Keep.self fun x hx hx' => hx (by
        have z : x ∈ dm (tot ([(p, M.lst acc)] :: G') F) := List.mem_cons_of_mem _ hx'
        exact (perm_shift.map (fun c : Cell => c.1)).mem_iff.mpr z))
    · obtain ⟨o, e4, vs, rfl, rv⟩ := ob'.up.get (.here .here)
      have nd := ob'.up.nd
      have nd' : (p :: dm (tot G' F)).Nodup := nd
      exact ⟨p, vs, rfl, (List.nodup_cons.mp nd').1, e4, RDs.perm (fun x hx hx' => hx (List.mem_cons_of_mem _ hx')) _ _ rv⟩
theorem tLc_imp {X : Cx} {tg iter : Expr} {g : TG} {tt : TT} {te : TE} {vs : List Nat} {σ : L2.St} {H : Hp} {Q Q' : VK} (h : tLc (semPI X tg iter) g tt te vs σ H Q) (k : ∀ v H', Q v H' → Q' v H') : tLc (semPI X tg iter) g tt te vs σ H Q' :=
  semPI_imp h fun J H1 hq p hp => by
    obtain ⟨W, w0, turn⟩ := hq p hp
    refine ⟨W, w0, fun i m H' w => ?_⟩
    rcases turn i m H' w with ⟨a, b⟩ | b
    · exact .inl ⟨a, k _ _ b⟩
    · exact .inr b
theorem lc_ok {own : List (Str × Nat)} {scope : Scope} (B : Bd X P w K mg base sc N Vs GN k) (hb : blkC N sc scope own = true) (pn : List (Addr × Obj)) (xe : Value → Shared → Prop) : BlkOk (X.tr pn xe).N (X.tr pn xe).env.scope scope own ∧ (X.tr pn xe).N.Nodup := by
  have e1 : (X.tr pn xe).N = N := B.eN
  have e2 : (X.tr pn xe).env.scope = sc := B.eS
  rw [e1, e2]
  exact ⟨blkOk_by hb, B.nd⟩
theorem lcT_pts {ifs : List Expr} {scope : Scope} (s : Shared) (H : Hp) (C : Addr) (cl : List (Str × Addr)) (fp : List Addr) : PTs (X.blk s H scope (compEnvC scope cl C X.env) fp) ifs (lcT X scope ifs) := ⟨fun pins s1 σ1 H1 Q1 I hq => by
  obtain ⟨t, pt, ht⟩ := hq s H C cl fp pins s1 I
  exact pt.run pins s1 σ1 H1 Q1 I ht⟩
theorem lcE_pe {scope : Scope} (s : Shared) (H : Hp) (C : Addr) (cl : List (Str × Addr)) (fp : List Addr) : PE (X.blk s H scope (compEnvC scope cl C X.env) fp) elt (lcE X scope elt) := ⟨fun pins s1 σ1 H1 Q1 I hq => hq s H C cl fp pins s1 I⟩
/-- [elt for tg in iter if ..] -/
theorem e_lc {ifs : List Expr} {scope : Scope} {own : List (Str × Nat)} {V' : List Nat} {GN' : List Str} {g : TG} {ok : Dl.D → Prop} {put : Sd → Dl.D → Sd} (B : Bd X P w K mg base sc N Vs GN k) (hb : blkC N sc scope own = true) (hn : blkNC scope sc N V' GN' = true)
    (T : CTg X tg scope (own.map (·.2)) g ok put) (h : LcI X P w K mg base sc N k tg iter elt ifs scope (own.map (·.2)) V' GN' ok put σd Gs Q R)
    (hs : ∀ x, foldedSetIterable iter X.env x = pure x := by intro _; rfl) : EvD X (.ListComp elt [⟨tg, iter, ifs, 0⟩] scope pos) σd Gs Q R := by
  intro pn xe E F σ H wh hE ob sl
  obtain ⟨bok, nd'⟩ := lc_ok B hb pn xe
  exact (pe_lc (X := X.tr pn xe) (own := own) B.calm nd' PI.self bok T.pg lcT_pts lcE_pe hs).get (lc_read B hb hn T h wh hE ob sl)
/-- name = [..] -/
theorem s_lc {ifs : List Expr} {scope : Scope} {own : List (Str × Nat)} {V' : List Nat} {GN' : List Str} {g : TG} {ok : Dl.D → Prop} {put : Sd → Dl.D → Sd} {D : DE} {i : Nat} {y : Str} {py spos : Pos} (B : Bd X P w K mg base sc N Vs GN k) (hN : N[i]? = some y) (hyl : sc.names.lookup y = some .local) (hk : sc.kind = .function)
    (hl : (py.line == pos.line) = true) (hsw : (scope.names.any fun (n, k) => n == y && (k == .local || k == .cell)) = false) (hb : blkC N sc scope own = true) (hn : blkNC scope sc N V' GN' = true)
    (T : CTg X tg scope (own.map (·.2)) g ok put) (h : LcI X P w K mg base sc N k tg iter elt ifs scope (own.map (·.2)) V' GN' ok put σd Gs (fun d G => D.nx (σd.set i (some d)) G) D.ex)
    (hs : ∀ x, foldedSetIterable iter X.env x = pure x := by intro _; rfl) : StD X (.Assign [.Name y py] (.ListComp elt [⟨tg, iter, ifs, 0⟩] scope pos) spos) σd Gs D := by
  intro pn xe E F σ H wh hE ob sl
  obtain ⟨bok, nd'⟩ := lc_ok B hb pn xe
  have e2 : (X.tr pn xe).env.scope = sc := B.eS
  have hy' : (X.tr pn xe).env.scope.names.lookup y = some .local := by rw [e2]; exact hyl
  refine (ps_setLc (X := X.tr pn xe) (own := own) (i := i) B.calm nd' (by rw [show (X.tr pn xe).N = N from B.eN]; exact hN) hy' (sw_true (by rw [e2]; exact hk) hy' hl hsw) PI.self bok T.pg lcT_pts lcE_pe hs).get ?_
  exact tLc_imp (lc_read B hb hn T h wh hE ob sl) fun v H' ⟨d, G', ob', k', r, q⟩ => ⟨_, G', ob', k', (sl.keep k').set r i, q⟩
theorem ctg_name {scope : Scope} {V' : List Nat} {GN' : List Str} {vs : List Nat} {j : Nat} {x : Str} (B : Bd X P w K mg base sc N Vs GN k) (hn : blkNC scope sc N V' GN' = true) (hN : N[j]? = some x) (hV : V'[j]? = some 2) (hj : j ∈ vs) :
    CTg X (.Name x pos) scope vs (gName j) (fun _ => True) (fun σ d => σ.set j (some d)) := by
  refine ⟨fun s H C cl fp => ?_, fun N' H d v σd σ r _ sl Qh q => q _ (sl.set r j) (wipe_set hj)⟩
  have b := bd_blk B hn s H C cl fp
  exact pg_name (X := X.blk s H scope (compEnvC scope cl C X.env) fp) (by rw [b.eN]; exact b.nd) (by rw [b.eN]; exact hN) (b.nm.loc j x hN hV) (b.hf j x hN hV)
def put2 (j l : Nat) (σ : Sd) : Dl.D → Sd
  | .tup [a, b] => (σ.set j (some a)).set l (some b)
  | _ => σ
theorem ctg_tup {scope : Scope} {V' : List Nat} {GN' : List Str} {vs : List Nat} {j l : Nat} {x y : Str} {px py : Pos} {kk : Nat} (B : Bd X P w K mg base sc N Vs GN k) (hn : blkNC scope sc N V' GN' = true) (hN : N[j]? = some x) (hV : V'[j]? = some 2) (hj : j ∈ vs) (hN2 : N[l]? = some y) (hV2 : V'[l]? = some 2) (hl : l ∈ vs) :
    CTg X (.Tuple [.Name x px, .Name y py] kk pos) scope vs (gTup X.K 2 (gCons (gName j) (gCons (gName l) gNil))) (fun d => ∃ a b, d = .tup [a, b]) (put2 j l) := by
  refine ⟨fun s H C cl fp => ?_, fun N' H d v σd σ r hd sl Qh q => ?_⟩
  · have b := bd_blk B hn s H C cl fp
    refine pg_tup (X := X.blk s H scope (compEnvC scope cl C X.env) fp) b.calm (pgs_cons (pg_name (by rw [b.eN]; exact b.nd) (by rw [b.eN]; exact hN) (b.nm.loc j x hN hV) (b.hf j x hN hV)) (pgs_cons (pg_name (by rw [b.eN]; exact b.nd) (by rw [b.eN]; exact hN2) (b.nm.loc l y hN2 hV2) (b.hf l y hN2 hV2)) pgs_nil))
  · obtain ⟨d1, d2, rfl⟩ := hd
    obtain ⟨a, vs', rfl, t, rs⟩ := tup_sq r
    have hlen := rs.length
    obtain ⟨v1, r1, rfl, q1, v2, r2, rfl, q2, rfl⟩ := rs
    refine ⟨a, _, rfl, t, rfl, v1, [v2], rfl, v2, [], rfl, rfl, q _ ((sl.set q1 j).set q2 l) (wipe_set2 hj hl)⟩
end
end Dl
namespace Dl
open PySem PySem.Spec PyProof.Rows L2

/-! ### data as a whole -/
mutual
def pd : D → PyData
  | .non => .none
  | .bl b => .bool b
  | .int i => .int i
  | .str x => .str x
  | .ref _ => .none
  | .scr _ => .none
  | .tup ds => .tuple (pds ds)
  | .lst ds => .list (pds ds)
  | .dct _ => .none
  | .ins _ _ _ => .none
  | .exc _ _ _ _ => .none
def pds : List D → List PyData
  | [] => []
  | d :: r => pd d :: pds r
end
/-- texts, numbers, None, truth values, tuples and lists of these, at most n deep -/
def shN : Nat → D → Bool
  | _, .non => true
  | _, .bl _ => true
  | _, .int _ => true
  | _, .str x => PyData.strOk x
  | n + 1, .tup ds => ds.all (shN n)
  | n + 1, .lst ds => ds.all (shN n)
  | _, _ => false
theorem pds_map (ds : List D) : pds ds = ds.map pd := by
  induction ds with
  | nil => rfl
  | cons d r ih =>
    show pd d :: pds r = pd d :: r.map pd
    rw [ih]
section
variable {K : PySem.W.Frag} {N : List Addr} {H : Hp}
theorem dp_all {n : Nat} (ih : ∀ (d : D) (v : V), shN n d = true → RD K N H d v → Dp K H v (pd d)) : ∀ (ds : List D) (vs : List V), ds.all (shN n) = true → RDs K N H ds vs → DpAll K H vs (pds ds)
  | [], _, _, r => by
    cases (show _ = [] from r)
    exact .nil
  | d :: ds, _, h, r => by
    obtain ⟨v, r', rfl, r1, r2⟩ := r
    rw [List.all_cons, Bool.and_eq_true] at h
    exact .cons (ih d v h.1 r1) (dp_all ih ds r' h.2 r2)
theorem dp_of : ∀ (n : Nat) (d : D) (v : V), shN n d = true → RD K N H d v → Dp K H v (pd d)
  | _, .non, _, _, r => by cases (show _ = V.non from r); exact .non
  | _, .bl _, _, _, r => by cases (show _ = V.bl _ from r); exact .bl _
  | _, .int _, _, _, r => by cases (show _ = V.int _ from r); exact .int _
  | _, .str _, _, _, r => by cases (show _ = V.str _ from r); exact .str _
  | 0, .tup _, _, h, _ => by simp [shN] at h
  | 0, .lst _, _, h, _ => by simp [shN] at h
  | n + 1, .tup ds, _, h, r => by
    obtain ⟨a, vs, rfl, t, rs⟩ := tup_sq r
    exact .tup t (dp_all (dp_of n) ds vs (by simpa [shN] using h) rs)
  | n + 1, .lst ds, _, h, r => by
    obtain ⟨a, vs, rfl, _, t, rs⟩ := r
    exact .lst (.inl (.inl t)) (dp_all (dp_of n) ds vs (by simpa [shN] using h) rs)
  | 0, .ref _, _, h, _ => by simp [shN] at h
  | 0, .scr _, _, h, _ => by simp [shN] at h
  | 0, .dct _, _, h, _ => by simp [shN] at h
  | 0, .ins _ _ _, _, h, _ => by simp [shN] at h
  | 0, .exc _ _ _ _, _, h, _ => by simp [shN] at h
  | n + 1, .ref _, _, h, _ => by simp [shN] at h
  | n + 1, .scr _, _, h, _ => by simp [shN] at h
  | n + 1, .dct _, _, h, _ => by simp [shN] at h
  | n + 1, .ins _ _ _, _, h, _ => by simp [shN] at h
  | n + 1, .exc _ _ _ _, _, h, _ => by simp [shN] at h
end
theorem lay_all {n : Nat} (ih : ∀ d : D, shN n d = true → (pd d).canLay0 = true ∧ (pd d).depth ≤ n) : ∀ ds : List D, ds.all (shN n) = true → PyData.canLayAll0 (pds ds) = true ∧ PyData.depthAll (pds ds) ≤ n
  | [], _ => ⟨by simp [pds, PyData.canLayAll0], by simp [pds, PyData.depthAll]⟩
  | d :: ds, h => by
    rw [List.all_cons, Bool.and_eq_true] at h
    obtain ⟨a1, a2⟩ := ih d h.1
    obtain ⟨b1, b2⟩ := lay_all ih ds h.2
    refine ⟨?_, ?_⟩
    · show PyData.canLayAll0 (pd d :: pds ds) = true
      simp only [PyData.canLayAll0, a1, b1, Bool.and_self]
    · show PyData.depthAll (pd d :: pds ds) ≤ n
      simp only [PyData.depthAll]
      omega
theorem lay_of : ∀ (n : Nat) (d : D), shN n d = true → (pd d).canLay0 = true ∧ (pd d).depth ≤ n
  | _, .non, _ => ⟨by simp [pd, PyData.canLay0], by simp [pd, PyData.depth]⟩
  | _, .bl _, _ => ⟨by simp [pd, PyData.canLay0], by simp [pd, PyData.depth]⟩
  | _, .int _, _ => ⟨by simp [pd, PyData.canLay0], by simp [pd, PyData.depth]⟩
  | n, .str x, h => ⟨by cases n <;> simpa [pd, PyData.canLay0, shN] using h, by simp [pd, PyData.depth]⟩
  | 0, .tup _, h => by simp [shN] at h
  | 0, .lst _, h => by simp [shN] at h
  | n + 1, .tup ds, h => by
    obtain ⟨b1, b2⟩ := lay_all (lay_of n) ds (by simpa [shN] using h)
    exact ⟨by simpa [pd, PyData.canLay0] using b1, by simp only [pd, PyData.depth]; omega⟩
  | n + 1, .lst ds, h => by
    obtain ⟨b1, b2⟩ := lay_all (lay_of n) ds (by simpa [shN] using h)
    exact ⟨by simpa [pd, PyData.canLay0] using b1, by simp only [pd, PyData.depth]; omega⟩
  | 0, .ref _, h => by simp [shN] at h
  | 0, .scr _, h => by simp [shN] at h
  | 0, .dct _, h => by simp [shN] at h
  | 0, .ins _ _ _, h => by simp [shN] at h
  | 0, .exc _ _ _ _, h => by simp [shN] at h
  | n + 1, .ref _, h => by simp [shN] at h
  | n + 1, .scr _, h => by simp [shN] at h
  | n + 1, .dct _, h => by simp [shN] at h
  | n + 1, .ins _ _ _, h => by simp [shN] at h
  | n + 1, .exc _ _ _ _, h => by simp [shN] at h
/-- x is the data p: a value that stays, or a list that may change -/
def PdD (K : PySem.W.Frag) (Gs : Pt) (x : D) (p : PyData) : Prop := ∀ F H v, Ob K (tot Gs F) H → RD K (dm (tot Gs F)) H x v → Dp K H v p
theorem pd_val {K : PySem.W.Frag} {Gs : Pt} {n : Nat} {d : D} (h : shN n d = true) : PdD K Gs d (pd d) := fun F H v _ r => dp_of n d v h r
theorem pd_own {K : PySem.W.Frag} {Gs : Pt} {n : Nat} {p : Addr} {ds : List D} (hp : Has Gs p (.lst ds)) (h : ds.all (shN n) = true) : PdD K Gs (.ref p) (pd (.lst ds)) := fun F H v ob r => by
  cases (show v = .ref p from r)
  obtain ⟨o, e, vs, rfl, rs⟩ := ob.get hp
  exact .lst (.inl (.inl e)) (dp_all (dp_of n) ds vs h rs)
theorem shp {n : Nat} {d : D} (h : shN n d = true) (hn : n ≤ 60) : SeqAt.shaped (pd d) = true := by
  obtain ⟨a, b⟩ := lay_of n d h
  unfold SeqAt.shaped
  rw [a, decide_eq_true (by omega)]
  rfl
section
variable {X : Cx} {P : Program} {w : World} {K : PySem.W.Frag} {mg : Str → Option Value} {base : Heap} {sc : Scope} {N : List Str} {Vs : List Nat} {GN : List Str} {k : Nat}
variable {σd : Sd} {Gs : Pt} {Q : QD} {R : RX}
theorem hu1 (B : Bd X P w K mg base sc N Vs GN k) : X.A.units + 1 < cLine := by
  have := B.room.un
  omega
theorem hu65 (B : Bd X P w K mg base sc N Vs GN k) : X.A.units + 65 < cLine := by
  have := B.room.un
  omega
/-! ### numbers -/
theorem b_add {i j : Int} (q : Q (.int (i + j)) Gs) : BinD X .Add (.int i) (.int j) Gs Q := ⟨_, fun pn xe => op_add, fun F H vx vy ob rx ry => by
  cases (show vx = .int i from rx); cases (show vy = .int j from ry)
  exact ⟨i, j, rfl, rfl, Post.of (d := .int (i + j)) ob Keep.refl rfl q⟩⟩
theorem b_sub {i j : Int} (q : Q (.int (i - j)) Gs) : BinD X .Sub (.int i) (.int j) Gs Q := ⟨_, fun pn xe => op_sub, fun F H vx vy ob rx ry => by
  cases (show vx = .int i from rx); cases (show vy = .int j from ry)
  exact ⟨i, j, rfl, rfl, Post.of (d := .int (i - j)) ob Keep.refl rfl q⟩⟩
theorem b_mul {i j : Int} (h : CMul i j) (q : Q (.int (i * j)) Gs) : BinD X .Mult (.int i) (.int j) Gs Q := ⟨_, fun pn xe => op_mul, fun F H vx vy ob rx ry => by
  cases (show vx = .int i from rx); cases (show vy = .int j from ry)
  exact ⟨i, j, rfl, rfl, h, Post.of (d := .int (i * j)) ob Keep.refl rfl q⟩⟩
theorem b_div {i j : Int} (h : CDiv i j) (q : Q (.int (i / j)) Gs) : BinD X .FloorDiv (.int i) (.int j) Gs Q := ⟨_, fun pn xe => op_fdiv, fun F H vx vy ob rx ry => by
  cases (show vx = .int i from rx); cases (show vy = .int j from ry)
  exact ⟨i, j, rfl, rfl, h, Post.of (d := .int (i / j)) ob Keep.refl rfl q⟩⟩
theorem b_mod {i j : Int} (h : 0 < j) (q : Q (.int (i % j)) Gs) : BinD X .Mod (.int i) (.int j) Gs Q := ⟨_, fun pn xe => op_mod, fun F H vx vy ob rx ry => by
  cases (show vx = .int i from rx); cases (show vy = .int j from ry)
  exact ⟨i, j, rfl, rfl, h, Post.of (d := .int (i % j)) ob Keep.refl rfl q⟩⟩
theorem b_and {i j : Int} (q : Q (.int (Builtin.bitAnd i j)) Gs) : BinD X .BitAnd (.int i) (.int j) Gs Q := ⟨_, fun pn xe => op_and, fun F H vx vy ob rx ry => by
  cases (show vx = .int i from rx); cases (show vy = .int j from ry)
  exact ⟨i, j, rfl, rfl, Post.of (d := .int (Builtin.bitAnd i j)) ob Keep.refl rfl q⟩⟩
theorem b_addS {x y : Str} (h : x.length + y.length ≤ sizeLine) (q : Q (.str (x ++ y)) Gs) : BinD X .Add (.str x) (.str y) Gs Q := ⟨_, fun pn xe => op_add_str, fun F H vx vy ob rx ry => by
  cases (show vx = .str x from rx); cases (show vy = .str y from ry)
  exact ⟨x, y, rfl, rfl, h, Post.of (d := .str (x ++ y)) ob Keep.refl rfl q⟩⟩
/-- a list as it stands: frozen or owned -/
def LsD (K : PySem.W.Frag) (Gs : Pt) (x : D) (ds : List D) : Prop := ∀ F H v, Ob K (tot Gs F) H → RD K (dm (tot Gs F)) H x v → ∃ a vs, v = .ref a ∧ H a = some (.lst vs) ∧ RDs K (dm (tot Gs F)) H ds vs
theorem ls_val {ds : List D} : LsD K Gs (.lst ds) ds := fun F H v ob r => by
  obtain ⟨a, vs, e, _, t, rs⟩ := r
  exact ⟨a, vs, e, t, rs⟩
theorem ls_own {p : Addr} {ds : List D} (h : Has Gs p (.lst ds)) : LsD K Gs (.ref p) ds := fun F H v ob r => by
  obtain ⟨o, e, vs, rfl, rs⟩ := ob.get h
  exact ⟨p, vs, r, e, rs⟩
theorem b_cat {x y : D} {ds es : List D} (hx : LsD X.K Gs x ds) (hy : LsD X.K Gs y es) (hz : ds.length + es.length ≤ sizeLine) (q : Q (.lst (ds ++ es)) Gs) : BinD X .Add x y Gs Q := ⟨_, fun pn xe => op_cat, fun F H vx vy ob rx ry => by
  obtain ⟨a, vs, rfl, h1, r1⟩ := hx F H vx ob rx
  obtain ⟨b, ws, rfl, h2, r2⟩ := hy F H vy ob ry
  refine ⟨a, b, vs, ws, rfl, rfl, h1, h2, by rw [r1.length, r2.length]; exact hz, fun p hp => ?_⟩
  exact Post.of (d := .lst (ds ++ es)) (ob.newF hp) (Keep.newF hp) ⟨p, _, rfl, ob.mem_none hp, upd_same, RDs.keep (Keep.newF hp) _ _ (r1.append r2)⟩ q⟩
theorem rep_rel {N : List Addr} {H : Hp} {ds : List D} {vs : List V} (r : RDs K N H ds vs) : ∀ n : Nat, RDs K N H (List.replicate n ds).flatten (List.replicate n vs).flatten
  | 0 => rfl
  | n + 1 => by
    rw [List.replicate_succ, List.replicate_succ, List.flatten_cons, List.flatten_cons]
    exact r.append (rep_rel r n)
theorem b_rep {x : D} {ds : List D} {n : Int} (hx : LsD X.K Gs x ds) (h1 : -(2 ^ 63) ≤ n) (h2 : n < 2 ^ 63) (hz : ds.length * n.toNat ≤ sizeLine) (q : Q (.lst (List.replicate n.toNat ds).flatten) Gs) : BinD X .Mult x (.int n) Gs Q := ⟨_, fun pn xe => op_rep, fun F H vx vy ob rx ry => by
  obtain ⟨a, vs, rfl, h3, r1⟩ := hx F H vx ob rx
  cases (show vy = .int n from ry)
  refine ⟨a, n, vs, rfl, rfl, h3, h1, h2, by rw [r1.length]; exact hz, fun p hp => ?_⟩
  exact Post.of (d := .lst (List.replicate n.toNat ds).flatten) (ob.newF hp) (Keep.newF hp) ⟨p, _, rfl, ob.mem_none hp, upd_same, RDs.keep (Keep.newF hp) _ _ (rep_rel r1 _)⟩ q⟩

/-! ### comparisons -/
theorem c_int {op : CmpOp} {p : Int → Int → Bool} {i j : Int} (ho : ∀ X : Cx, OpR X (compareOp op) (rI0 fun i j => .bl (p i j))) (q : Q (.bl (p i j)) Gs) : CmpD X op (.int i) (.int j) Gs Q := ⟨_, fun pn xe => ho _, fun F H vx vy ob rx ry => by
  cases (show vx = .int i from rx); cases (show vy = .int j from ry)
  exact ⟨i, j, rfl, rfl, Post.of (d := .bl (p i j)) ob Keep.refl rfl q⟩⟩
theorem c_lt {i j : Int} (q : Q (.bl (decide (i < j))) Gs) : CmpD X .Lt (.int i) (.int j) Gs Q := c_int (p := fun i j => decide (i < j)) (fun _ => op_lt) q
theorem c_le {i j : Int} (q : Q (.bl (decide (i ≤ j))) Gs) : CmpD X .LtE (.int i) (.int j) Gs Q := c_int (p := fun i j => decide (i ≤ j)) (fun _ => op_le) q
theorem c_gt {i j : Int} (q : Q (.bl (decide (j < i))) Gs) : CmpD X .Gt (.int i) (.int j) Gs Q := c_int (p := fun i j => decide (j < i)) (fun _ => op_gt) q
theorem c_ge {i j : Int} (q : Q (.bl (decide (j ≤ i))) Gs) : CmpD X .GtE (.int i) (.int j) Gs Q := c_int (p := fun i j => decide (j ≤ i)) (fun _ => op_ge) q
theorem c_eqI {i j : Int} (q : Q (.bl (decide (i = j))) Gs) : CmpD X .Eq (.int i) (.int j) Gs Q := ⟨_, fun pn xe => op_eq, fun F H vx vy ob rx ry => by
  cases (show vx = .int i from rx); cases (show vy = .int j from ry)
  exact ⟨rfl, Post.of (d := .bl (decide (i = j))) ob Keep.refl (by show V.bl _ = V.bl _; simp) q⟩⟩
theorem c_neI {i j : Int} (q : Q (.bl (!decide (i = j))) Gs) : CmpD X .NotEq (.int i) (.int j) Gs Q := ⟨_, fun pn xe => op_ne, fun F H vx vy ob rx ry => by
  cases (show vx = .int i from rx); cases (show vy = .int j from ry)
  exact ⟨rfl, Post.of (d := .bl (!decide (i = j))) ob Keep.refl (by show V.bl _ = V.bl _; simp) q⟩⟩
theorem c_eqS {x y : Str} (q : Q (.bl (decide (x = y))) Gs) : CmpD X .Eq (.str x) (.str y) Gs Q := ⟨_, fun pn xe => op_eq, fun F H vx vy ob rx ry => by
  cases (show vx = .str x from rx); cases (show vy = .str y from ry)
  exact ⟨rfl, Post.of (d := .bl (decide (x = y))) ob Keep.refl (by show V.bl _ = V.bl _; simp) q⟩⟩
theorem c_neS {x y : Str} (q : Q (.bl (!decide (x = y))) Gs) : CmpD X .NotEq (.str x) (.str y) Gs Q := ⟨_, fun pn xe => op_ne, fun F H vx vy ob rx ry => by
  cases (show vx = .str x from rx); cases (show vy = .str y from ry)
  exact ⟨rfl, Post.of (d := .bl (!decide (x = y))) ob Keep.refl (by show V.bl _ = V.bl _; simp) q⟩⟩
theorem c_eqD {x y : D} {p r : PyData} (B : Bd X P w K mg base sc N Vs GN k) (hx : PdD X.K Gs x p) (hy : PdD X.K Gs y r) (sx : SeqAt.shaped p = true) (sy : SeqAt.shaped r = true) (q : Q (.bl (PyData.eqv p r)) Gs) : CmpD X .Eq x y Gs Q :=
  ⟨rEqD X.K, fun pn xe => op_eqD (X := X.tr pn xe) B.room.units, fun F H vx vy ob rx ry => ⟨p, r, hx F H vx ob rx, hy F H vy ob ry, sx, sy, Post.of (d := .bl (PyData.eqv p r)) ob Keep.refl rfl q⟩⟩
theorem c_neD {x y : D} {p r : PyData} (B : Bd X P w K mg base sc N Vs GN k) (hx : PdD X.K Gs x p) (hy : PdD X.K Gs y r) (sx : SeqAt.shaped p = true) (sy : SeqAt.shaped r = true) (q : Q (.bl (!PyData.eqv p r)) Gs) : CmpD X .NotEq x y Gs Q :=
  ⟨rNeD X.K, fun pn xe => op_neD (X := X.tr pn xe) B.room.units, fun F H vx vy ob rx ry => ⟨p, r, hx F H vx ob rx, hy F H vy ob ry, sx, sy, Post.of (d := .bl (!PyData.eqv p r)) ob Keep.refl rfl q⟩⟩
theorem c_inD {x y : D} {p : PyData} {r : List PyData} (B : Bd X P w K mg base sc N Vs GN k) (hx : PdD X.K Gs x p) (hy : PdD X.K Gs y (.list r)) (sx : SeqAt.shaped p = true) (sy : SeqAt.shaped (.list r) = true) (q : Q (.bl (r.any fun z => PyData.eqv z p)) Gs) : CmpD X .In x y Gs Q :=
  ⟨rInD X.K, fun pn xe => op_inD (X := X.tr pn xe) (show X.A.units + 65 < cLine from hu65 B), fun F H vx vy ob rx ry => ⟨p, r, hx F H vx ob rx, hy F H vy ob ry, sx, sy, Post.of (d := .bl (r.any fun z => PyData.eqv z p)) ob Keep.refl rfl q⟩⟩
theorem c_ninD {x y : D} {p : PyData} {r : List PyData} (B : Bd X P w K mg base sc N Vs GN k) (hx : PdD X.K Gs x p) (hy : PdD X.K Gs y (.list r)) (sx : SeqAt.shaped p = true) (sy : SeqAt.shaped (.list r) = true) (q : Q (.bl (!r.any fun z => PyData.eqv z p)) Gs) : CmpD X .NotIn x y Gs Q :=
  ⟨rNotInD X.K, fun pn xe => op_notInD (X := X.tr pn xe) (show X.A.units + 65 < cLine from hu65 B), fun F H vx vy ob rx ry => ⟨p, r, hx F H vx ob rx, hy F H vy ob ry, sx, sy, Post.of (d := .bl (!r.any fun z => PyData.eqv z p)) ob Keep.refl rfl q⟩⟩
def isNon : D → Bool
  | .non => true
  | _ => false
theorem rd_non {N : List Addr} {H : Hp} {d : D} {v : V} (r : RD K N H d v) : decide (v = .non) = isNon d := by
  cases d with
  | non => cases (show v = .non from r); rfl
  | bl _ => cases (show v = .bl _ from r); rfl
  | int _ => cases (show v = .int _ from r); rfl
  | str _ => cases (show v = .str _ from r); rfl
  | ref _ => cases (show v = .ref _ from r); rfl
  | scr _ => obtain ⟨a, rfl, _⟩ := r; rfl
  | tup _ => obtain ⟨a, _, rfl, _⟩ := r; rfl
  | lst _ => obtain ⟨a, _, rfl, _⟩ := r; rfl
  | dct _ => obtain ⟨a, _, _, rfl, _⟩ := r; rfl
  | ins _ _ _ => obtain ⟨a, _, _, rfl, _⟩ := r; rfl
  | exc _ _ _ _ => obtain ⟨rfl, _⟩ := r; rfl
theorem c_isN {x : D} (q : Q (.bl (isNon x)) Gs) : CmpD X .Is x .non Gs Q := ⟨_, fun pn xe => op_isN, fun F H vx vy ob rx ry => ⟨ry, Post.of (d := .bl (isNon x)) ob Keep.refl (congrArg V.bl (rd_non rx)) q⟩⟩
theorem c_notN {x : D} (q : Q (.bl (!isNon x)) Gs) : CmpD X .IsNot x .non Gs Q := ⟨_, fun pn xe => op_notN, fun F H vx vy ob rx ry => ⟨ry, Post.of (d := .bl (!isNon x)) ob Keep.refl (congrArg (fun b => V.bl (!b)) (rd_non rx)) q⟩⟩

/-! ### built-ins -/
def rLenSq (K : PySem.W.Frag) : List V → Hp → VK → Prop := fun xs H Q => ∃ p ys, xs = [.ref p] ∧ (SqL K H p ys ∨ SqT K H p ys) ∧ Q (.int ys.length) H
def rListOf (K : PySem.W.Frag) : List V → Hp → VK → Prop := fun xs H Q => ∃ p ys, xs = [.ref p] ∧ (SqL K H p ys ∨ SqT K H p ys) ∧ ∀ l, H l = none → Q (.ref l) (upd H l (.lst ys))
def rTupOf (K : PySem.W.Frag) : List V → Hp → VK → Prop := fun xs H Q => ∃ p ys, xs = [.ref p] ∧ ((SqL K H p ys ∧ ∀ l, H l = none → Q (.ref l) (upd H l (.tup ys))) ∨ (SqT K H p ys ∧ Q (.ref p) H))
theorem k_int {i : Int} (q : Q (.int i) Gs) : CalD X (.type "int") [.int i] Gs Q := ⟨_, fun pn xe => call_int1, fun F H vs ob r => by
  obtain ⟨v, _, rfl, rfl, rfl⟩ := r
  exact .inl ⟨i, rfl, Post.of (d := .int i) ob Keep.refl rfl q⟩⟩
theorem k_intB {b : Bool} (q : Q (.int (if b then 1 else 0)) Gs) : CalD X (.type "int") [.bl b] Gs Q := ⟨_, fun pn xe => call_int1, fun F H vs ob r => by
  obtain ⟨v, _, rfl, rfl, rfl⟩ := r
  exact .inr ⟨b, rfl, Post.of (d := .int (if b then 1 else 0)) ob Keep.refl rfl q⟩⟩
theorem k_lenS {x : Str} (hz : x.length ≤ sizeLine) (q : Q (.int x.length) Gs) : CalD X (.builtin "len") [.str x] Gs Q := ⟨_, fun pn xe => call_len_str, fun F H vs ob r => by
  obtain ⟨v, _, rfl, rfl, rfl⟩ := r
  exact ⟨x, rfl, hz, Post.of (d := .int x.length) ob Keep.refl rfl q⟩⟩
theorem k_lenL {x : D} {ds : List D} (hx : LsD X.K Gs x ds) (q : Q (.int ds.length) Gs) : CalD X (.builtin "len") [x] Gs Q := ⟨rLenSq X.K, fun pn xe => call_len_seq, fun F H vs ob r => by
  obtain ⟨v, _, rfl, r1, rfl⟩ := r
  obtain ⟨a, vs, rfl, h1, r2⟩ := hx F H v ob r1
  exact ⟨a, vs, rfl, .inl (.inl (.inl h1)), Post.of (d := .int ds.length) ob Keep.refl (by show V.int _ = V.int _; rw [r2.length]) q⟩⟩
theorem k_lenT {ds : List D} (q : Q (.int ds.length) Gs) : CalD X (.builtin "len") [.tup ds] Gs Q := ⟨rLenSq X.K, fun pn xe => call_len_seq, fun F H vs ob r => by
  obtain ⟨v, _, rfl, r1, rfl⟩ := r
  obtain ⟨a, vs, rfl, h1, r2⟩ := tup_sq r1
  exact ⟨a, vs, rfl, .inr h1, Post.of (d := .int ds.length) ob Keep.refl (by show V.int _ = V.int _; rw [r2.length]) q⟩⟩
theorem k_lenC {ns : List Int} (q : Q (.int ns.length) Gs) : CalD X (.builtin "len") [.scr ns] Gs Q := ⟨rLenSq X.K, fun pn xe => call_len_seq, fun F H vs ob r => by
  obtain ⟨v, _, rfl, r1, rfl⟩ := r
  obtain ⟨a, rfl, h1⟩ := scr_sq r1
  exact ⟨a, _, rfl, .inl h1, Post.of (d := .int ns.length) ob Keep.refl (by show V.int _ = V.int _; rw [List.length_map]) q⟩⟩
theorem ints_rel {N : List Addr} {H : Hp} : ∀ {ns : List Int} {vs : List V}, RDs K N H (ns.map D.int) vs → vs = ns.map V.int
  | [], _, r => r
  | n :: ns, _, r => by
    obtain ⟨v, r', rfl, h1, h2⟩ := r
    rw [ints_rel h2, show v = .int n from h1]
    rfl
theorem rel_ints {N : List Addr} {H : Hp} : ∀ (ns : List Int), RDs K N H (ns.map D.int) (ns.map V.int)
  | [] => rfl
  | n :: ns => ⟨.int n, _, rfl, rfl, rel_ints ns⟩
theorem k_sortI {x : D} {ns : List Int} (hx : LsD X.K Gs x (ns.map D.int)) (hz : ns.length < 64) (q : ∀ ms : List Int, ms.Perm ns → ms.Pairwise (fun a b => a ≤ b) → Q (.lst (ms.map D.int)) Gs) : CalD X (.builtin "sorted") [x] Gs Q := ⟨rSorted X.K, fun pn xe => cr_sorted, fun F H vs ob r => by
  obtain ⟨v, _, rfl, r1, rfl⟩ := r
  obtain ⟨a, vs, rfl, h1, r2⟩ := hx F H v ob r1
  have e := ints_rel r2
  subst e
  refine ⟨a, ns, rfl, .inl (.inl h1), hz, ?_⟩
  intro ms p pm so hp
  exact Post.of (d := .lst (ms.map D.int)) (ob.newF hp) (Keep.newF hp) ⟨p, _, rfl, ob.mem_none hp, upd_same, rel_ints ms⟩ (q ms pm so)⟩
theorem k_sum {x : D} {ns : List Int} (B : Bd X P w K mg base sc N Vs GN k) (hx : LsD X.K Gs x (ns.map D.int)) (q : Q (.int ns.sum) Gs) : CalD X (.builtin "sum") [x] Gs Q := ⟨rSum X.K, fun pn xe => cr_sum (X := X.tr pn xe) B.calm, fun F H vs ob r => by
  obtain ⟨v, _, rfl, r1, rfl⟩ := r
  obtain ⟨a, vs, rfl, h1, r2⟩ := hx F H v ob r1
  have e := ints_rel r2
  subst e
  exact ⟨a, ns, rfl, .inl (.inl h1), Post.of (d := .int ns.sum) ob Keep.refl rfl q⟩⟩
theorem k_max2 {i j : Int} (B : Bd X P w K mg base sc N Vs GN k) (q : Q (.int (if j > i then j else i)) Gs) : CalD X (.builtin "max") [.int i, .int j] Gs Q := ⟨_, fun pn xe => call_max2 B.calm, fun F H vs ob r => by
  obtain ⟨_, _, rfl, rfl, _, _, rfl, rfl, rfl⟩ := r
  exact ⟨i, j, rfl, Post.of (d := .int _) ob Keep.refl rfl q⟩⟩
theorem k_min2 {i j : Int} (B : Bd X P w K mg base sc N Vs GN k) (q : Q (.int (if j < i then j else i)) Gs) : CalD X (.builtin "min") [.int i, .int j] Gs Q := ⟨_, fun pn xe => call_min2 B.calm, fun F H vs ob r => by
  obtain ⟨_, _, rfl, rfl, _, _, rfl, rfl, rfl⟩ := r
  exact ⟨i, j, rfl, Post.of (d := .int _) ob Keep.refl rfl q⟩⟩
theorem k_listL {x : D} {ds : List D} (hx : LsD X.K Gs x ds) (q : Q (.lst ds) Gs) : CalD X (.type "list") [x] Gs Q := ⟨rListOf X.K, fun pn xe => call_list_of, fun F H vs ob r => by
  obtain ⟨v, _, rfl, r1, rfl⟩ := r
  obtain ⟨a, vs, rfl, h1, r2⟩ := hx F H v ob r1
  refine ⟨a, vs, rfl, .inl (.inl (.inl h1)), fun p hp => ?_⟩
  exact Post.of (d := .lst ds) (ob.newF hp) (Keep.newF hp) ⟨p, _, rfl, ob.mem_none hp, upd_same, RDs.keep (Keep.newF hp) _ _ r2⟩ q⟩
theorem k_listT {ds : List D} (q : Q (.lst ds) Gs) : CalD X (.type "list") [.tup ds] Gs Q := ⟨rListOf X.K, fun pn xe => call_list_of, fun F H vs ob r => by
  obtain ⟨v, _, rfl, r1, rfl⟩ := r
  obtain ⟨a, vs, rfl, h1, r2⟩ := tup_sq r1
  refine ⟨a, vs, rfl, .inr h1, fun p hp => ?_⟩
  exact Post.of (d := .lst ds) (ob.newF hp) (Keep.newF hp) ⟨p, _, rfl, ob.mem_none hp, upd_same, RDs.keep (Keep.newF hp) _ _ r2⟩ q⟩
theorem k_tupL {x : D} {ds : List D} (hx : LsD X.K Gs x ds) (q : Q (.tup ds) Gs) : CalD X (.type "tuple") [x] Gs Q := ⟨rTupOf X.K, fun pn xe => call_tuple_of, fun F H vs ob r => by
  obtain ⟨v, _, rfl, r1, rfl⟩ := r
  obtain ⟨a, vs, rfl, h1, r2⟩ := hx F H v ob r1
  refine ⟨a, vs, rfl, .inl ⟨.inl (.inl h1), fun p hp => ?_⟩⟩
  exact Post.of (d := .tup ds) (ob.newF hp) (Keep.newF hp) ⟨p, _, rfl, .inl ⟨ob.mem_none hp, .inl upd_same⟩, RDs.keep (Keep.newF hp) _ _ r2⟩ q⟩
theorem k_tupT {ds : List D} (q : Q (.tup ds) Gs) : CalD X (.type "tuple") [.tup ds] Gs Q := ⟨rTupOf X.K, fun pn xe => call_tuple_of, fun F H vs ob r => by
  obtain ⟨v, _, rfl, r1, rfl⟩ := r
  have r0 := r1
  obtain ⟨a, vs, rfl, h1, r2⟩ := tup_sq r1
  exact ⟨a, vs, rfl, .inr ⟨h1, Post.of (d := .tup ds) ob Keep.refl r0 q⟩⟩⟩
/-- append -/
theorem m_app {p : Addr} {ds : List D} {d : D} {Gs' : Pt} (u : Upd Gs p (.lst ds) (.lst (ds ++ [d])) Gs') (hz : ds.length < sizeLine) (q : Q .non Gs') : MetD X "list.append" (.ref p) [d] Gs Q := ⟨_, fun pn xe => mt_append, fun F H vx vs ob rx rs => by
  cases (show vx = .ref p from rx)
  obtain ⟨v, _, rfl, r1, rfl⟩ := rs
  obtain ⟨o, e, ws, rfl, r2⟩ := ob.get u.has
  refine ⟨p, ws, v, rfl, rfl, e, by rw [r2.length]; exact hz, ?_⟩
  exact Post.of (d := .non) (ob.upd (m' := .lst (ds ++ [d])) u ⟨_, rfl, r2.append (RDs.one r1)⟩) (Keep.updD u) rfl q⟩
end
end Dl
namespace Dl
open PySem PySem.Spec PyProof.Rows L2

/-! ### a text times a number -/
def repS (x : Str) (n : Int) : Str := ⟨(List.replicate n.toNat x.cps).foldl (· ++ ·) #[]⟩
theorem fold_emp {a : Array Nat} (h : a.size = 0) : ∀ n : Nat, (List.replicate n a).foldl (· ++ ·) #[] = (#[] : Array Nat)
  | 0 => rfl
  | n + 1 => by
    have e : a = #[] := Array.eq_empty_of_size_eq_zero h
    subst e
    rw [List.replicate_succ, List.foldl_cons]
    exact fold_emp h n
theorem repS_one (x : Str) : repS x 1 = x := by
  unfold repS
  cases x with
  | mk c => simp
theorem repS_emp {x : Str} (n : Int) (h : x.length = 0) : repS x n = x := by
  unfold repS
  cases x with
  | mk c =>
    have h' : c.size = 0 := h
    rw [fold_emp h']
    rw [Array.eq_empty_of_size_eq_zero h']
def rRepS : R2 := fun x y H Q => ∃ (z : Str) (n : Int), x = .str z ∧ y = .int n ∧ -(2 ^ 63) ≤ n ∧ n < 2 ^ 63 ∧ z.length * n.toNat ≤ sizeLine ∧ Q (.str (repS z n)) H
theorem op_repS {X : Cx} : OpR X (binaryOp .Mult) rRepS := by
  intro pins s σ H x y v u Q I rx ry h
  obtain ⟨z, n, rfl, rfl, h1, h2, hz, q⟩ := h
  obtain ⟨t, rfl⟩ := rx
  obtain ⟨t', rfl⟩ := ry
  have hs : sizeLine < 2 ^ 62 := by rw [sizeLine_eq]; decide
  refine PySem.P.mul_str (by rw [decide_eq_false (by omega), decide_eq_false (by omega)]; rfl) (fun g1 _ g2 => ?_) (fun g1 _ => ?_) ?_
  · have hn : (0 : Int) < n := by omega
    have e : ((z.length * n.toNat : Nat) : Int) = (z.length : Int) * n := by rw [Int.natCast_mul, Int.toNat_of_nonneg (by omega)]
    have g3 : (z.length : Int) * n ≤ 2 ^ 63 - 1 := by rw [← e]; omega
    have := (Int.le_ediv_iff_mul_le hn).mpr g3
    omega
  · unfold Builtin.Str.tooLong
    simpa using hz
  · by_cases g : n < 1
    · rw [if_pos g]
      have e0 : n.toNat = 0 := by omega
      have : repS z n = Str.empty := by unfold repS; rw [e0]; rfl
      rw [this] at q
      exact ⟨by decide, .str Str.empty, H, I.tok _, ⟨_, rfl⟩, q⟩
    · rw [if_neg g]
      by_cases g2 : (n == 1 || z.length == 0) = true
      · rw [if_pos g2]
        rw [Bool.or_eq_true, beq_iff_eq, beq_iff_eq] at g2
        have : repS z n = z := by
          rcases g2 with g2 | g2
          · rw [g2]; exact repS_one z
          · exact repS_emp n g2
        rw [this] at q
        exact ⟨.str z, H, I, ⟨_, rfl⟩, q⟩
      · rw [if_neg g2]
        refine ⟨?_, .str (repS z n), H, I.tok _, ⟨_, rfl⟩, q⟩
        have fl : ∀ (m : Nat) (b : Array Nat), ((List.replicate m z.cps).foldl (· ++ ·) b).size = b.size + m * z.cps.size := by
          intro m
          induction m with
          | zero => intro b; simp
          | succ m ih =>
            intro b
            rw [List.replicate_succ, List.foldl_cons, ih, Array.size_append, Nat.succ_mul]
            omega
        show (repS z n).cps.size ≤ sizeLine
        unfold repS
        rw [fl]
        have : z.length = z.cps.size := rfl
        have e0 : (#[] : Array Nat).size = 0 := rfl
        rw [e0, Nat.zero_add, Nat.mul_comm, ← this]
        exact hz
section
variable {X : Cx} {P : Program} {w : World} {K : PySem.W.Frag} {mg : Str → Option Value} {base : Heap} {sc : Scope} {N : List Str} {Vs : List Nat} {GN : List Str} {k : Nat}
variable {σd : Sd} {Gs : Pt} {Q : QD} {R : RX}
theorem b_repS {x : Str} {n : Int} (h1 : -(2 ^ 63) ≤ n) (h2 : n < 2 ^ 63) (hz : x.length * n.toNat ≤ sizeLine) (q : Q (.str (repS x n)) Gs) : BinD X .Mult (.str x) (.int n) Gs Q := ⟨rRepS, fun pn xe => op_repS, fun F H vx vy ob rx ry => by
  cases (show vx = .str x from rx); cases (show vy = .int n from ry)
  exact ⟨x, n, rfl, rfl, h1, h2, hz, Post.of (d := .str (repS x n)) ob Keep.refl rfl q⟩⟩
/-- a new list that will change -/
theorem b_catO {x y : D} {ds es : List D} (hx : LsD X.K Gs x ds) (hy : LsD X.K Gs y es) (hz : ds.length + es.length ≤ sizeLine) (q : ∀ p, Q (.ref p) ([(p, .lst (ds ++ es))] :: Gs)) : BinD X .Add x y Gs Q := ⟨_, fun pn xe => op_cat, fun F H vx vy ob rx ry => by
  obtain ⟨a, vs, rfl, h1, r1⟩ := hx F H vx ob rx
  obtain ⟨b, ws, rfl, h2, r2⟩ := hy F H vy ob ry
  refine ⟨a, b, vs, ws, rfl, rfl, h1, h2, by rw [r1.length, r2.length]; exact hz, fun p hp => ?_⟩
  exact Post.of (d := .ref p) (ob.new (m := .lst (ds ++ es)) hp ⟨_, rfl, r1.append r2⟩) (Keep.newO hp) rfl (q p)⟩
theorem c_eqB {x y : Bool} (q : Q (.bl (decide (x = y))) Gs) : CmpD X .Eq (.bl x) (.bl y) Gs Q := ⟨_, fun pn xe => op_eq, fun F H vx vy ob rx ry => by
  cases (show vx = .bl x from rx); cases (show vy = .bl y from ry)
  exact ⟨rfl, Post.of (d := .bl (decide (x = y))) ob Keep.refl (by show V.bl _ = V.bl _; simp) q⟩⟩
theorem c_neB {x y : Bool} (q : Q (.bl (!decide (x = y))) Gs) : CmpD X .NotEq (.bl x) (.bl y) Gs Q := ⟨_, fun pn xe => op_ne, fun F H vx vy ob rx ry => by
  cases (show vx = .bl x from rx); cases (show vy = .bl y from ry)
  exact ⟨rfl, Post.of (d := .bl (!decide (x = y))) ob Keep.refl (by show V.bl _ = V.bl _; simp) q⟩⟩
/-- any(xs) of a list of ints -/
def rAnyI (K : PySem.W.Frag) : List V → Hp → VK → Prop := fun vs H Q => ∃ (a : Addr) (ns : List Int), vs = [V.ref a] ∧ SqL K H a (ns.map V.int) ∧ Q (.bl (ns.any fun n => n != 0)) H
theorem truth_ints {prog : Program} {w : World} {A : Around} {ns : List Int} {its : List Value} (e : IntsAre its ns) :
    TruthOf prog w A (fun i v => its.toArray[i]? = some v) (fun i => (ns.getD i 0) != 0) := fun i v s Q E hv hq => by
  have hv' : its[i]? = some v := by simpa using hv
  have get : ∀ {its : List Value} {ns : List Int}, IntsAre its ns → ∀ (i : Nat), its[i]? = some v → ∃ n t, ns[i]? = some n ∧ v = Value.int n t := by
    intro its ns e
    induction e with
    | nil => intro i h; simp at h
    | cons _ _ _ ih =>
      intro i h
      cases i with
      | zero => exact ⟨_, _, rfl, by simpa using h.symm⟩
      | succ i => exact ih i (by simpa using h)
  obtain ⟨n, t, hn, rfl⟩ := get e i hv'
  have hg : ns.getD i 0 = n := by rw [List.getD_eq_getElem?_getD, hn] <;> rfl
  have hq' : Q (ns.getD i 0 != 0) s := hq
  rw [hg] at hq'
  exact PySem.P.truthy_int hq'
theorem anyI_range : ∀ ns : List Int, (List.range ns.length).any (fun i => ns.getD i 0 != 0) = ns.any fun n => n != 0
  | [] => rfl
  | b :: bs => by
    rw [List.length_cons, List.range_succ_eq_map, List.any_cons, List.any_map, List.any_cons, ← anyI_range bs]
    all_goals rfl
theorem cr_anyI (hc : X.calm = true) : CallR X (.builtin "any") (rAnyI X.K) := by
  intro pins s σ H vs us Q I r h
  obtain ⟨a, bs, rfl, hs, q⟩ := h
  obtain ⟨its, rv, hl, _⟩ := I.list hs
  rw [Vals.ref1 r]
  have hb := rv.ints
  refine call_any_walk (iter_any hl.isList fun s₂ e2 st hne => ?_)
  subst e2
  refine ⟨_, _, _, _, _, _, _, rfl, Walks.list (A := X.A.in1) (I.ok.hd hc) _ a hne its.toArray, st, truth_ints hb, fun h' tk hk => ?_⟩
  refine ⟨.bl _, H, I.kept fun b o eo => hk b o (fun hmem => ?_) (Heap.get?_push_of_some _ eo), ?_, q⟩
  · rcases List.mem_cons.mp hmem with e1 | hmem
    · exact absurd (e1 ▸ Heap.lt_size eo) (Nat.lt_irrefl _)
    · cases hmem
  · show Value.bool _ = Value.bool _
    rw [← anyI_range, List.size_toArray, hb.length]
theorem k_anyI {x : D} {ns : List Int} (B : Bd X P w K mg base sc N Vs GN k) (hx : LsD X.K Gs x (ns.map D.int)) (q : Q (.bl (ns.any fun n => n != 0)) Gs) : CalD X (.builtin "any") [x] Gs Q := ⟨rAnyI X.K, fun pn xe => cr_anyI (X := X.tr pn xe) B.calm, fun F H vs ob r => by
  obtain ⟨v, _, rfl, r1, rfl⟩ := r
  obtain ⟨a, vs, rfl, h1, r2⟩ := hx F H v ob r1
  have e := ints_rel r2
  subst e
  exact ⟨a, ns, rfl, .inl (.inl h1), Post.of (d := .bl _) ob Keep.refl rfl q⟩⟩
theorem k_ord {x : Str} (h : x.length = 1) (q : Q (.int (x.cps.getD 0 0 : Nat)) Gs) : CalD X (.builtin "ord") [.str x] Gs Q := ⟨_, fun pn xe => call_ord, fun F H vs ob r => by
  obtain ⟨v, _, rfl, rfl, rfl⟩ := r
  exact ⟨x, rfl, h, Post.of (d := .int _) ob Keep.refl rfl q⟩⟩
theorem strs_rel {N : List Addr} {H : Hp} : ∀ {ns : List Str} {vs : List V}, RDs K N H (ns.map D.str) vs → vs = ns.map V.str
  | [], _, r => r
  | n :: ns, _, r => by
    obtain ⟨v, r', rfl, h1, h2⟩ := r
    rw [strs_rel h2, show v = .str n from h1]
    rfl
def rJoin (K : PySem.W.Frag) : V → List V → Hp → VK → Prop := fun x xs H Q => ∃ a p, ∃ ys : List Str, x = .str a ∧ xs = [.ref p] ∧ (SqL K H p (ys.map V.str) ∨ SqT K H p (ys.map V.str)) ∧
    (ys.map (·.length)).sum + ys.length * a.length ≤ 16777216 ∧ Q (.str (Txt.join a ys)) H
theorem m_join {z : Str} {x : D} {ys : List Str} (hx : LsD X.K Gs x (ys.map D.str)) (hz : (ys.map (·.length)).sum + ys.length * z.length ≤ 16777216) (q : Q (.str (Txt.join z ys)) Gs) : MetD X "str.join" (.str z) [x] Gs Q := ⟨rJoin X.K, fun pn xe => mt_join, fun F H vx vs ob rx rs => by
  cases (show vx = .str z from rx)
  obtain ⟨v, _, rfl, r1, rfl⟩ := rs
  obtain ⟨a, vs, rfl, h1, r2⟩ := hx F H v ob r1
  have e := strs_rel r2
  subst e
  exact ⟨z, a, ys, rfl, rfl, .inl (.inl (.inl h1)), hz, Post.of (d := .str _) ob Keep.refl rfl q⟩⟩
/-- a, b, .. = a list -/
theorem tg_lst {ts : List Expr} {kk : Nat} {x : D} {ds : List D} {pos : Pos} {Q : Sd → Pt → Prop} (hc : X.calm = true) (hx : LsD X.K Gs x ds) (hl : ds.length = ts.length) (h : TgsD X ts ds σd Gs Q R)
    (hn : (assignEach ts X.env).length = ts.length := by rfl) (hst : (assignEach ts X.env).findIdx? (·.1) = none := by rfl) : TgD X (.Tuple ts kk pos) x σd Gs Q R := by
  intro pn xe E F σ H v wh hE ob sl r
  obtain ⟨a, vs, rfl, t, rs⟩ := hx F H v ob r
  have pgs : PGs (X.tr pn xe) ts (fun vs' σ' H' Q' => vs' = vs ∧ σ' = σ ∧ H' = H ∧ Q' = PostS X.K F Gs H Q) := ⟨fun pins s σ' H' vs' us Q' I rv hh => by
    obtain ⟨rfl, rfl, rfl, rfl⟩ := hh
    exact tgs_run ts ds σd Gs Gs Q R σ' H' H' vs' wh hE Keep.refl ob sl rs h pins s us I rv⟩
  exact (pg_lst (X := X.tr pn xe) (n := ts.length) hc pgs hn hst).get ⟨a, vs, rfl, .inl (.inl t), by rw [rs.length, hl], rfl, rfl, rfl, rfl⟩
end
end Dl
namespace Dl
open PySem PySem.Spec PyProof.Rows L2

/-! ### the law's own def, called from outside -/
def spLaw (n : Nat) : SpD := fun ds Gs Q _ => ∃ ns : List Int, ds = [.scr ns] ∧ ns.length ≤ n ∧ Gs = [] ∧ ∀ G, Q (.bl true) G
theorem spLaw_at {K : PySem.W.Frag} {H : Hp} {a : Addr} {ns : List Int} {n : Nat} (hl : ns.length ≤ n) (hS : SqL K H a (ns.map V.int)) : toSp K 1 (spLaw n) [.ref a] H (fun v _ => v = .bl true) fun _ _ _ => False := by
  refine ⟨rfl, [.scr ns], [], [], fun d _ => d = .bl true, R0, ⟨_, _, rfl, ⟨a, rfl, ?_⟩, rfl⟩, ⟨List.nodup_nil, fun b m h => by cases h⟩, ⟨ns, rfl, hl, rfl, fun _ => rfl⟩, fun v H' p => ?_, fun c od H' p => ?_⟩
  · rcases hS with h | h
    · exact .inl ⟨List.not_mem_nil, h⟩
    · exact .inr h
  · obtain ⟨d, Gs', _, _, r, rfl⟩ := p
    exact r
  · obtain ⟨_, _, _, _, _, _, _, z⟩ := p
    exact z.elim
/-- what may stand in the heap at the start -/
def H0of (a : Addr) (u : Obj) (xs : List V) : Hp := fun b => if b = a then some (.frz u (.lst xs)) else none
theorem H0_at {a : Addr} {u : Obj} {xs : List V} : H0of a u xs a = some (.frz u (.lst xs)) := if_pos rfl
theorem H0_ne {a b : Addr} {u : Obj} {xs : List V} (h : ¬ b = a) : H0of a u xs b = none := if_neg h
theorem H0_some {a b : Addr} {u : Obj} {xs : List V} {o : HO} (h : H0of a u xs b = some o) : b = a ∧ o = .frz u (.lst xs) := by
  by_cases e : b = a
  · subst e
    rw [H0_at] at h
    exact ⟨rfl, (Option.some.inj h).symm⟩
  · rw [H0_ne e] at h
    cases h
theorem run_law {P : Program} {w : World} {K : PySem.W.Frag} {mg mb : Str → Option Value} {k n : Nat} {fa a : Addr} {fd : FuncData} {x : Str} {s1 : Shared} {vs : List Value} {ns : List Int} {H : Hp}
    (KX : K.In s1.heap) (hns : s1.heap.Ns mainGlobals mg) (hb : s1.heap.Ns builtinsNs mb) (hbb : ∀ x : Str, x ≠ "__name__" → mb x = bootBuiltins x) (hlim : s1.heap.NoLimit) (hg : s1.gens = #[])
    (ha : s1.heap.get? a = some { cls := .type "list", data := .seq vs.toArray }) (hl : ns.length ≤ n) (hr : Room k callerA)
    (F : ∀ base : Heap, K.In base → base.Ns mainGlobals mg → FnG P w K mg base k fa fd [x] (toSp K 1 (spLaw n))) (hbind : ∀ (s : Shared) (u : Value), BindsTo s fd ⟨[u], []⟩ [(x, u)])
    (hS : SqL K H a (ns.map V.int)) (hok : HOk P w H s1.heap) (only : ∀ b u, H b = some u → b = a ∧ ∃ o xs, u = .frz o (.lst xs)) (hK : H a ≠ none → K.lookup a = none) :
    codeAny (model P w) callerA (.call (.ref fa) ⟨[.ref a], []⟩) (fun r s' => r = .ok (.ret (.bool true)) ∧ OldK s1.heap s'.heap ∧ s'.os = s1.os ∧ AllBare s'.gens) s1 := by
  -- a namespace is never the script
  have free : ∀ {b : Addr} {o : Obj} {es : Array DictEntry} {ep : Nat}, s1.heap.get? b = some o → o.data = .dict es ep → H b = none := by
    intro b o es ep e d
    rcases q : H b with _ | u
    · rfl
    · obtain ⟨rfl, _⟩ := only b u q
      rw [ha] at e
      cases e
      cases d
  have space : ∀ {b : Addr} {m : Str → Option Value}, s1.heap.Ns b m → (hidT s1.heap H).Ns b m := by
    intro b m ⟨o, es, ep, e, d, r⟩
    exact ⟨o, es, ep, hidT_get e (free e d), d, r⟩
  have kb : K.In (hidT s1.heap H) := by
    intro b o e
    refine hidT_get (KX b o e) ?_
    rcases q : H b with _ | u
    · rfl
    · obtain ⟨rfl, _⟩ := only b u q
      rw [hK (by rw [q]; exact fun z => by cases z)] at e
      cases e
  have md : Mod K mg (hidT s1.heap H) := by
    obtain ⟨mc, l1, l2⟩ := hlim
    exact ⟨kb, space hns, ⟨mb, space hb, hbb⟩, mc, space l1, l2⟩
  have env : Env0 P w K mg (hidT s1.heap H) callerA [] s1 H := ⟨rfl, md, fun b o => of_hidT, Nat.le_of_eq (hidT_size _ _), trivial, fun b z => absurd z List.not_mem_nil, hok, .of_eq hg⟩
  have run := (F _ kb (space hns)).run callerA [] s1 H ⟨[.ref a], []⟩ [.ref a] [.ref a] _ _ rfl hr env (hbind s1 (.ref a)) (.cons rfl .nil) (spLaw_at hl hS)
  refine codeAny_mono run fun r s' h => ?_
  match r, h with
  | .error e, h =>
    obtain ⟨_, _, _, _, _, _, _, _, _, _, _, _, z⟩ := h
    exact False.elim z
  | .ok .next, h => exact h.elim
  | .ok .brk, h => exact h.elim
  | .ok .cont, h => exact h.elim
  | .ok (.ret u), h =>
    obtain ⟨v, H', os, bare, un, hok', rv, rfl⟩ := h
    cases (show u = Value.bool true from rv)
    refine ⟨rfl, OldK.of_keep fun b o e => ?_, os, bare⟩
    rcases q : H b with _ | u
    · exact un.keep b o e q (fun z => absurd z List.not_mem_nil) List.not_mem_nil
    · obtain ⟨_, o1, xs, eu⟩ := only b u q
      subst eu
      have old := (hok b _ q).1
      rw [e] at old
      cases old
      exact (hok' b _ (un.frzs b _ _ q)).1
theorem law_start {P : Program} {w : World} {K : PySem.W.Frag} {mg mb : Str → Option Value} {k n : Nat} {fa a : Addr} {fd : FuncData} {x : Str} {s1 : Shared} {vs : List Value} {ns : List Int}
    (KX : K.In s1.heap) (hns : s1.heap.Ns mainGlobals mg) (hb : s1.heap.Ns builtinsNs mb) (hbb : ∀ x : Str, x ≠ "__name__" → mb x = bootBuiltins x) (hlim : s1.heap.NoLimit) (hg : s1.gens = #[])
    (ha : s1.heap.get? a = some { cls := .type "list", data := .seq vs.toArray }) (hi : IntsAre vs ns) (hl : ns.length ≤ n) (hn : n ≤ sizeLine) (hr : Room k callerA)
    (F : ∀ base : Heap, K.In base → base.Ns mainGlobals mg → FnG P w K mg base k fa fd [x] (toSp K 1 (spLaw n))) (hbind : ∀ (s : Shared) (u : Value), BindsTo s fd ⟨[u], []⟩ [(x, u)]) :
    codeAny (model P w) callerA (.call (.ref fa) ⟨[.ref a], []⟩) (fun r s' => r = .ok (.ret (.bool true)) ∧ OldK s1.heap s'.heap ∧ s'.os = s1.os ∧ AllBare s'.gens) s1 := by
  have rv := vals_ints hi
  have hz : ns.length ≤ sizeLine := Nat.le_trans hl hn
  rcases hk : K.lookup a with _ | o
  · refine run_law (H := H0of a { cls := .type "list", data := .seq vs.toArray } (ns.map V.int)) KX hns hb hbb hlim hg ha hl hr F hbind (.inl (.inr ⟨_, H0_at⟩)) (fun b u e => ?_) (fun b u e => ?_) (fun _ => hk)
    · obtain ⟨rfl, rfl⟩ := H0_some e
      exact ⟨ha, by rw [List.length_map]; exact hz, vs, _, rv, ha⟩
    · obtain ⟨rfl, rfl⟩ := H0_some e
      exact ⟨rfl, _, _, rfl⟩
  · have e := KX a o hk
    rw [ha] at e
    cases e
    refine run_law (H := fun _ => none) KX hns hb hbb hlim hg ha hl hr F hbind (.inr ⟨_, vs.toArray, _, hk, rfl, rfl, rfl, ?_, by simpa using rv⟩) (fun b u e => by cases e) (fun b u e => by cases e) (fun z => absurd rfl z)
    rw [List.size_toArray, hi.length]
    exact hz
/-- the goal that k_head leaves -/
theorem walk_law {l : PySem.W.OpenLaw} {n k : Nat} {q : Program} {loose : List Str} {XP : (Str → Option Value) → Heap → Prop} {YP : World → Heap → Prop} {d : DefRec} {K : Params → PySem.W.Frag} {x : Str}
    (hn : l.most = some n) (hz : n ≤ sizeLine) (hdf : d.params.defaults = []) (hr : Room k callerA)
    (hY : ∀ (w : World) (h : Heap), YP w h → (K w.params).In h)
    (F : ∀ (w : World) (mg : Str → Option Value) (fa : Addr) (h : Heap), (K w.params).In h → h.Ns mainGlobals mg → mg d.name = some (.ref fa) →
      ∃ fd : FuncData, (∀ (s : Shared) (u : Value), BindsTo s fd ⟨[u], []⟩ [(x, u)]) ∧
        ∀ base : Heap, (K w.params).In base → base.Ns mainGlobals mg → FnG l.prog w (K w.params) mg base k fa fd [x] (toSp (K w.params) 1 (spLaw n))) :
    PySem.W.WalkO q loose XP YP l.row.toRowW d [] (fun f vs => PySem.call f vs) := by
  refine Att.attach_call hn hdf fun w _ s1 mg mb fa _ _ _ _ a vs ns G Y _ _ _ hmg hobj hints hlen hg => ?_
  have KX := hY w _ Y
  obtain ⟨fd, hb, hF⟩ := F w mg fa _ KX G.T.g hmg
  exact law_start KX G.T.g G.T.b G.T.builtins G.T.nolimit hg hobj hints hlen hz hr hF hb
end Dl
namespace Dl
open PySem PySem.Spec PyProof.Rows L2

theorem bb_len : bootBuiltins "len" = some (.builtin "len") := by decide +kernel
theorem bb_min : bootBuiltins "min" = some (.builtin "min") := by decide +kernel
theorem bb_max : bootBuiltins "max" = some (.builtin "max") := by decide +kernel
theorem bb_sorted : bootBuiltins "sorted" = some (.builtin "sorted") := by decide +kernel
theorem bb_sum : bootBuiltins "sum" = some (.builtin "sum") := by decide +kernel
theorem bb_ord : bootBuiltins "ord" = some (.builtin "ord") := by decide +kernel
theorem bb_any : bootBuiltins "any" = some (.builtin "any") := by decide +kernel
theorem bb_all : bootBuiltins "all" = some (.builtin "all") := by decide +kernel
theorem bb_isinstance : bootBuiltins "isinstance" = some (.builtin "isinstance") := by decide +kernel
theorem bb_repr : bootBuiltins "repr" = some (.builtin "repr") := by decide +kernel
theorem bb_chr : bootBuiltins "chr" = some (.builtin "chr") := by decide +kernel
theorem bb_int : bootBuiltins "int" = some (.type "int") := by decide +kernel
theorem bb_list : bootBuiltins "list" = some (.type "list") := by decide +kernel
theorem bb_tuple : bootBuiltins "tuple" = some (.type "tuple") := by decide +kernel
theorem bb_str : bootBuiltins "str" = some (.type "str") := by decide +kernel
theorem bb_set : bootBuiltins "set" = some (.type "set") := by decide +kernel
theorem bb_dict : bootBuiltins "dict" = some (.type "dict") := by decide +kernel
theorem bb_bool : bootBuiltins "bool" = some (.type "bool") := by decide +kernel
theorem bb_enumerate : bootBuiltins "enumerate" = some (.type "enumerate") := by decide +kernel
theorem bb_zip : bootBuiltins "zip" = some (.type "zip") := by decide +kernel
theorem bb_range : bootBuiltins "range" = some (.type "range") := by decide +kernel
/-! ### places found by their names -/
inductive At {α : Type} : List α → Nat → α → Prop
  | z {x : α} {l : List α} : At (x :: l) 0 x
  | s {x y : α} {l : List α} {i : Nat} : At l i x → At (y :: l) (i + 1) x
theorem At.get {α : Type} {l : List α} {i : Nat} {x : α} (h : At l i x) : l[i]? = some x := by
  induction h with
  | z => rfl
  | s _ ih => simpa using ih
inductive SetAt {α : Type} : List α → Nat → α → List α → Prop
  | z {x y : α} {l : List α} : SetAt (y :: l) 0 x (x :: l)
  | s {x y : α} {l l' : List α} {i : Nat} : SetAt l i x l' → SetAt (y :: l) (i + 1) x (y :: l')
theorem SetAt.eq {α : Type} {l l' : List α} {i : Nat} {x : α} (h : SetAt l i x l') : l.set i x = l' := by
  induction h with
  | z => rfl
  | s _ ih => rw [List.set_cons_succ, ih]
theorem set_mk {α : Type} {l l' : List α} {i : Nat} {x : α} {P : List α → Prop} (h : SetAt l i x l') (p : P l') : P (l.set i x) := by
  rw [h.eq]
  exact p
section
variable {X : Cx} {P : Program} {w : World} {K : PySem.W.Frag} {mg : Str → Option Value} {base : Heap} {sc : Scope} {N : List Str} {Vs : List Nat} {GN : List Str} {k : Nat}
variable {σd : Sd} {Gs : Pt} {Q : QD} {R : RX} {D : DE} {e a b c o : Expr} {es rest : List Expr} {pos p2 apos cpos : Pos}
theorem v_ {i n : Nat} {x : Str} {d : Dl.D} (B : Bd X P w K mg base sc N Vs GN k) (hN : At N i x) (h : At σd i (some d)) (hV : Vs[i]? = some (n + 1)) (q : Q d Gs) : EvD X (.Name x pos) σd Gs Q R := e_var B hN.get hV h.get q
theorem g_ {j : Nat} {x : Str} {d : Dl.D} (B : Bd X P w K mg base sc N Vs GN k) (g : GV K mg x d) (hG : At GN j x) (q : Q d Gs) : EvD X (.Name x pos) σd Gs Q R := e_glob B g hG.get q
theorem st_ {i : Nat} {x : Str} {pos' : Pos} (B : Bd X P w K mg base sc N Vs GN k) (hN : At N i x) (hV : Vs[i]? = some 2) (h : EvD X e σd Gs (fun d G => ∃ σ', SetAt σd i (some d) σ' ∧ D.nx σ' G) D.ex)
    (hs : swapsWith e (some (.Name x pos')) pos.line X.env = pure false := by rfl) : StD X (.Assign [.Name x pos'] e pos) σd Gs D :=
  s_set B hN.get hV (fun pn xe E F σ H wh hE ob sl => (h pn xe E F σ H wh hE ob sl).imp fun v H' ⟨d, G', a1, a2, a3, σ', hσ, q⟩ => ⟨d, G', a1, a2, a3, by rw [← hσ.eq] at q; exact q⟩) hs
theorem sx_ {i : Nat} {x : Option Dl.D} {σ' : Sd} {P : Sd → Prop} (h : SetAt σd i x σ') (p : P σ') : ∃ σ', SetAt σd i x σ' ∧ P σ' := ⟨σ', h, p⟩
theorem tn_ {i : Nat} {x : Str} {d : Dl.D} {σ' : Sd} {Q : Sd → Pt → Prop} (B : Bd X P w K mg base sc N Vs GN k) (hN : At N i x) (hV : Vs[i]? = some 2) (h : SetAt σd i (some d) σ') (q : Q σ' Gs) : TgD X (.Name x pos) d σd Gs Q R :=
  tg_name B hN.get hV (by rw [h.eq]; exact q)
theorem bi_ {x : Str} {p : Pos} {id : String} {j : Nat} (B : Bd X P w K mg base sc N Vs GN k) (hm : mg x = none) (hG : At GN j x) (hv : bootBuiltins x = some (.builtin id)) (h : EvA X (e :: es) σd Gs (fun ds G => CalD X (.builtin id) ds G Q) R)
    (he : starEach (e :: es) X.env = (false, eval e X.env) :: starEach es X.env := by rfl) (hpl : (backTo pos (starEach es X.env)).any (·.1) = false := by rfl) : EvD X (.Call (.Name x p) (e :: es) [] pos) σd Gs Q R := e_blt B hm hG.get hv h he hpl
theorem bt_ {x : Str} {p : Pos} {T : String} {j : Nat} (B : Bd X P w K mg base sc N Vs GN k) (hm : mg x = none) (hG : At GN j x) (hv : bootBuiltins x = some (.type T)) (h : EvA X (e :: es) σd Gs (fun ds G => CalD X (.type T) ds G Q) R)
    (he : starEach (e :: es) X.env = (false, eval e X.env) :: starEach es X.env := by rfl) (hpl : (backTo pos (starEach es X.env)).any (·.1) = false := by rfl) : EvD X (.Call (.Name x p) (e :: es) [] pos) σd Gs Q R := e_bty B hm hG.get hv h he hpl
theorem call_ {x : Str} {p : Pos} {j i n : Nat} {sp : SpD} (B : Bd X P w K mg base sc N Vs GN k) (c : Cal P w K mg base j x n sp) (hG : At GN i x) (hj : j ≤ k)
    (h : EvA X (e :: es) σd Gs (fun ds G => ds.length = n ∧ ∃ Ps Rest, Pick G Ps Rest ∧ sp ds Ps (fun d Ps' => Q d (Ps' ++ Rest)) (fun C fs Ps' => R C fs (Ps' ++ Rest))) R)
    (he : starEach (e :: es) X.env = (false, eval e X.env) :: starEach es X.env := by rfl) (hpl : (backTo pos (starEach es X.env)).any (·.1) = false := by rfl) : EvD X (.Call (.Name x p) (e :: es) [] pos) σd Gs Q R := e_call B c hG.get hj h he hpl
theorem qb_ {Q : QT} {b : Bool} (q : Q b Gs) : QB Q (.bl b) Gs := ⟨b, rfl, q⟩
theorem rg1_ {tg : Expr} {Q : List Dl.D → (Pt → Prop) → Pt → Prop} {p : Pos} {j : Nat} (B : Bd X P w K mg base sc N Vs GN k) (hm : mg "range" = none) (hG : At GN j ("range" : Str)) (h : EvA X [a] σd Gs (fun ds G => ∃ n : Int, ds = [.int n] ∧ -(2 ^ 62) ≤ n ∧ n < 2 ^ 62 ∧ Q (rngL 0 n.toNat) (fun _ => True) G) R)
    (hs : starEach [a] X.env = [(false, eval a X.env)] := by rfl) : ItE X tg (.Call (.Name "range" p) [a] [] pos) σd Gs Q R := it_rng1 B hm hG.get h hs
theorem rg2_ {tg : Expr} {Q : List Dl.D → (Pt → Prop) → Pt → Prop} {p : Pos} {j : Nat} (B : Bd X P w K mg base sc N Vs GN k) (hm : mg "range" = none) (hG : At GN j ("range" : Str))
    (h : EvA X [a, b] σd Gs (fun ds G => ∃ m n : Int, ds = [.int m, .int n] ∧ -(2 ^ 62) ≤ m ∧ m < 2 ^ 62 ∧ -(2 ^ 62) ≤ n ∧ n < 2 ^ 62 ∧ Q (rngL m (n - m).toNat) (fun _ => True) G) R)
    (hs : starEach [a, b] X.env = [(false, eval a X.env), (false, eval b X.env)] := by rfl) (hs2 : starEach [b] X.env = [(false, eval b X.env)] := by rfl) : ItE X tg (.Call (.Name "range" p) [a, b] [] pos) σd Gs Q R := it_rng2 B hm hG.get h hs hs2
theorem len1_ {x : Dl.D} {n : Int} {P : Int → Prop} (h1 : -(2 ^ 62) ≤ n) (h2 : n < 2 ^ 62) (p : P n) : ∃ n' : Int, [Dl.D.int n] = [.int n'] ∧ -(2 ^ 62) ≤ n' ∧ n' < 2 ^ 62 ∧ P n' := ⟨n, rfl, h1, h2, p⟩
/-! ### two ways -/
theorem br_d {p : Prop} [Decidable p] {A B : Prop} (h1 : p → A) (h2 : ¬ p → B) : (decide p = true → A) ∧ (decide p = false → B) := ⟨fun h => h1 (of_decide_eq_true h), fun h => h2 (of_decide_eq_false h)⟩
theorem br_n {p : Prop} [Decidable p] {A B : Prop} (h1 : ¬ p → A) (h2 : p → B) : ((!decide p) = true → A) ∧ ((!decide p) = false → B) := ⟨fun h => h1 (by simpa using h), fun h => h2 (by simpa using h)⟩
theorem br_b {t : Bool} {A B : Prop} (h1 : t = true → A) (h2 : t = false → B) : (t = true → A) ∧ (t = false → B) := ⟨h1, h2⟩
theorem br_nb {t : Bool} {A B : Prop} (h1 : t = false → A) (h2 : t = true → B) : ((!t) = true → A) ∧ ((!t) = false → B) := ⟨fun h => h1 (by simpa using h), fun h => h2 (by simpa using h)⟩
theorem br_t {A B : Prop} (h : A) : (true = true → A) ∧ (true = false → B) := ⟨fun _ => h, fun z => nomatch z⟩
theorem br_f {A B : Prop} (h : B) : (false = true → A) ∧ (false = false → B) := ⟨(fun z => nomatch z), fun _ => h⟩
theorem br_nt {A B : Prop} (h : B) : ((!true) = true → A) ∧ ((!true) = false → B) := ⟨(fun z => nomatch z), fun _ => h⟩
theorem br_nf {A B : Prop} (h : A) : ((!false) = true → A) ∧ ((!false) = false → B) := ⟨fun _ => h, fun z => nomatch z⟩
/-- a value that is a truth value -/
theorem xb_ {t : Bool} {P : Bool → Prop} (p : P t) : ∃ t', Dl.D.bl t = .bl t' ∧ P t' := ⟨t, rfl, p⟩
theorem xi_ {i : Int} {P : Int → Prop} (p : P i) : ∃ i', Dl.D.int i = .int i' ∧ P i' := ⟨i, rfl, p⟩
theorem ch_d {p : Prop} [Decidable p] {A B : Prop} (h1 : p → A) (h2 : ¬ p → B) : if decide p = true then A else B := by
  by_cases h : p
  · rw [if_pos (decide_eq_true h)]; exact h1 h
  · rw [if_neg (by simpa using h)]; exact h2 h
end
/-! ### the same rules where the ends are written out -/
section
variable {X : Cx} {P : Program} {w : World} {K : PySem.W.Frag} {mg : Str → Option Value} {base : Heap} {sc : Scope} {N : List Str} {Vs : List Nat} {GN : List Str} {k : Nat}
variable {σd : Sd} {Gs : Pt} {e a b c o tg iter : Expr} {es rest : List Expr} {pos p2 apos cpos : Pos} {st : Stmt} {sts xs ys body : List Stmt}
variable {nx bk ct : Sd → Pt → Prop} {rt : QD} {ex : RX}
theorem ssc_ (h : StD X st σd Gs ⟨fun σ' G' => SsD X sts σ' G' ⟨nx, rt, bk, ct, ex⟩, rt, bk, ct, ex⟩) : SsD X (st :: sts) σd Gs ⟨nx, rt, bk, ct, ex⟩ := ss_cons h
theorem ssn_ (q : nx σd Gs) : SsD X [] σd Gs ⟨nx, rt, bk, ct, ex⟩ := ss_nil q
theorem spass_ (q : nx σd Gs) : StD X (.Pass pos) σd Gs ⟨nx, rt, bk, ct, ex⟩ := s_pass q
theorem sbrk_ (q : bk σd Gs) : StD X (.Break pos) σd Gs ⟨nx, rt, bk, ct, ex⟩ := s_brk q
theorem sctn_ (q : ct σd Gs) : StD X (.Continue pos) σd Gs ⟨nx, rt, bk, ct, ex⟩ := s_ctn q
theorem sexpr_ (h : EvD X e σd Gs (fun _ G => nx σd G) ex) (hs : swapsWith e none pos.line X.env = pure false := by rfl) : StD X (.Expr e pos) σd Gs ⟨nx, rt, bk, ct, ex⟩ := s_expr h hs
theorem sret_ (h : EvD X e σd Gs rt ex) : StD X (.Return (some e) pos) σd Gs ⟨nx, rt, bk, ct, ex⟩ := s_ret h
theorem sretN_ (q : rt .non Gs) : StD X (.Return none pos) σd Gs ⟨nx, rt, bk, ct, ex⟩ := s_retN q
theorem sif_ (h : EvT X c σd Gs (fun t G => (t = true → SsD X xs σd G ⟨nx, rt, bk, ct, ex⟩) ∧ (t = false → SsD X ys σd G ⟨nx, rt, bk, ct, ex⟩)) ex) : StD X (.If c xs ys pos) σd Gs ⟨nx, rt, bk, ct, ex⟩ := s_if h
theorem sset_ {i : Nat} {x : Str} {pos' : Pos} (B : Bd X P w K mg base sc N Vs GN k) (hN : At N i x) (hV : Vs[i]? = some 2) (h : EvD X e σd Gs (fun d G => ∃ σ', SetAt σd i (some d) σ' ∧ nx σ' G) ex)
    (hs : swapsWith e (some (.Name x pos')) pos.line X.env = pure false := by rfl) : StD X (.Assign [.Name x pos'] e pos) σd Gs ⟨nx, rt, bk, ct, ex⟩ := st_ B hN hV h hs
theorem sasg_ {t : Expr} (h : EvD X e σd Gs (fun d G => TgD X t d σd G nx ex) ex) (hs : swapsWithSole [t] e pos.line X.env = pure false := by rfl) (hw : swappedStores [t] e X.env = pure none := by rfl)
    (h1 : (assignEach [t] X.env).map (·.2) = [assign t X.env] := by rfl) : StD X (.Assign [t] e pos) σd Gs ⟨nx, rt, bk, ct, ex⟩ := s_asg h hs hw h1
theorem sfld_ {f : Str} {pos' : Pos} (h : EvD X e σd Gs (fun d G1 => EvD X o σd G1 (fun x G2 => SfD X.K x f d G2 (fun G3 => nx σd G3)) ex) ex)
    (hs : swapsWith e (some (.Attribute o f pos')) pos.line X.env = pure false := by rfl) : StD X (.Assign [.Attribute o f pos'] e pos) σd Gs ⟨nx, rt, bk, ct, ex⟩ := s_fld h hs
theorem sfor_ (B : Bd X P w K mg base sc N Vs GN k)
    (h : ItE X tg iter σd Gs (fun ds stay G1 => ∃ I : List Dl.D → Sd → Pt → Prop, I ds σd G1 ∧
      (∀ d r σ' G', I (d :: r) σ' G' → stay G' ∧ TgD X tg d σ' G' (fun σ2 G2 => SsD X body σ2 G2 ⟨I r, rt, nx, I r, ex⟩) ex) ∧ (∀ σ' G', I [] σ' G' → stay G' ∧ nx σ' G')) ex)
    (hs : ∀ x, foldedSetIterable iter X.env x = pure x := by intro _; rfl) : StD X (.For tg iter body [] pos) σd Gs ⟨nx, rt, bk, ct, ex⟩ := s_for B h hs
theorem swhile_ (I : Nat → Sd → Pt → Prop) (m0 : Nat) (h0 : I m0 σd Gs)
    (h : ∀ m σ' G', I m σ' G' → EvT X c σ' G' (fun t G2 => (t = true → SsD X body σ' G2 ⟨fun σ3 G3 => ∃ m', m' < m ∧ I m' σ3 G3, rt, nx, fun σ3 G3 => ∃ m', m' < m ∧ I m' σ3 G3, ex⟩) ∧ (t = false → nx σ' G2)) ex) : StD X (.While c body [] pos) σd Gs ⟨nx, rt, bk, ct, ex⟩ := s_while I m0 h0 h
theorem sfrz_ {p : Addr} {ds : List Dl.D} {i : Nat} {Gs' : Pt} {σ' : Sd} (hs : At σd i (some (.ref p))) (t : Take Gs [(p, .lst ds)] Gs') (hσ : SetAt σd i (some (.lst ds)) σ') (h : SsD X sts σ' Gs' ⟨nx, rt, bk, ct, ex⟩) : SsD X sts σd Gs ⟨nx, rt, bk, ct, ex⟩ :=
  ss_frz hs.get t (by rw [hσ.eq]; exact h)
theorem slc_ {elt : Expr} {ifs : List Expr} {scope : Scope} {own : List (Str × Nat)} {V' : List Nat} {GN' : List Str} {g : TG} {ok : Dl.D → Prop} {put : Sd → Dl.D → Sd} {i : Nat} {y : Str} {py spos : Pos} (B : Bd X P w K mg base sc N Vs GN k) (hN : At N i y) (hyl : sc.names.lookup y = some .local) (hk : sc.kind = .function)
    (hl : (py.line == pos.line) = true) (hsw : (scope.names.any fun (n, k) => n == y && (k == .local || k == .cell)) = false) (hb : blkC N sc scope own = true) (hn : blkNC scope sc N V' GN' = true)
    (T : CTg X tg scope (own.map (·.2)) g ok put) (h : LcI X P w K mg base sc N k tg iter elt ifs scope (own.map (·.2)) V' GN' ok put σd Gs (fun d G => ∃ σ', SetAt σd i (some d) σ' ∧ nx σ' G) ex)
    (hs : ∀ x, foldedSetIterable iter X.env x = pure x := by intro _; rfl) : StD X (.Assign [.Name y py] (.ListComp elt [⟨tg, iter, ifs, 0⟩] scope pos) spos) σd Gs ⟨nx, rt, bk, ct, ex⟩ := by
  refine s_lc (D := ⟨nx, rt, bk, ct, ex⟩) B hN.get hyl hk hl hsw hb hn T ?_ hs
  intro pn xe E F σ H wh hE ob sl
  refine semPI_imp (h pn xe E F σ H wh hE ob sl) fun J H1 ⟨ds, stay, G1, a1, a2, a3, I, i0, turn, done⟩ => ⟨ds, stay, G1, a1, a2, a3, I, i0, turn, fun acc G' hI => ?_⟩
  obtain ⟨h1, σ', h2, h3⟩ := done acc G' hI
  have e := h2.eq
  subst e
  exact ⟨h1, h3⟩
end
end Dl
namespace Dl
open PySem PySem.Spec PyProof.Rows L2
section
variable {X : Cx} {P : Program} {w : World} {K : PySem.W.Frag} {mg : Str → Option Value} {base : Heap} {sc : Scope} {N : List Str} {Vs : List Nat} {GN : List Str} {k : Nat}
variable {σd : Sd} {Gs : Pt} {e a b c o tg iter : Expr} {es rest : List Expr} {pos p2 apos cpos : Pos} {st : Stmt} {sts xs ys body : List Stmt}
variable {nx bk ct : Sd → Pt → Prop} {rt : QD} {ex : RX}
theorem TgD.imp {t : Expr} {d : Dl.D} {Q Q' : Sd → Pt → Prop} (h : TgD X t d σd Gs Q ex) (k : ∀ σ G, Q σ G → Q' σ G) : TgD X t d σd Gs Q' ex := fun pn xe E F σ H v wh hE ob sl r =>
  semG_imp (h pn xe E F σ H v wh hE ob sl r) fun σ' H' ⟨σd', G', a1, a2, a3, q⟩ => ⟨σd', G', a1, a2, a3, k _ _ q⟩
/-- a loop's invariant by the number of turns done -/
theorem inv_ {ds : List Dl.D} {stay : Pt → Prop} {G1 : Pt} (J : Nat → Sd → Pt → Prop) (h0 : J 0 σd G1)
    (turn : ∀ i d σ' G', ds[i]? = some d → J i σ' G' → stay G' ∧ TgD X tg d σ' G' (fun σ2 G2 => SsD X body σ2 G2 ⟨J (i + 1), rt, nx, J (i + 1), ex⟩) ex) (done : ∀ σ' G', J ds.length σ' G' → stay G' ∧ nx σ' G') :
    ∃ I : List Dl.D → Sd → Pt → Prop, I ds σd G1 ∧
      (∀ d r σ' G', I (d :: r) σ' G' → stay G' ∧ TgD X tg d σ' G' (fun σ2 G2 => SsD X body σ2 G2 ⟨I r, rt, nx, I r, ex⟩) ex) ∧ (∀ σ' G', I [] σ' G' → stay G' ∧ nx σ' G') := by
  refine ⟨fun r σ' G' => ∃ i, r = ds.drop i ∧ i ≤ ds.length ∧ J i σ' G', ⟨0, rfl, Nat.zero_le _, h0⟩, fun d r σ' G' ⟨i, er, hi, hJ⟩ => ?_, fun σ' G' ⟨i, er, hi, hJ⟩ => ?_⟩
  · have hlt : i < ds.length := by
      rcases Nat.lt_or_ge i ds.length with h | h
      · exact h
      · rw [List.drop_eq_nil_of_le h] at er
        cases er
    have hd : ds[i]? = some ds[i] := List.getElem?_eq_getElem hlt
    rw [drop_cons hd] at er
    obtain ⟨e1, e2⟩ := List.cons.inj er
    subst e1
    obtain ⟨s1, s2⟩ := turn i _ σ' G' hd hJ
    have up : ∀ σ G, J (i + 1) σ G → ∃ j, r = ds.drop j ∧ j ≤ ds.length ∧ J j σ G := fun σ G h => ⟨i + 1, e2, hlt, h⟩
    exact ⟨s1, s2.imp fun σ2 G2 hb => ss_imp hb up (fun _ _ q => q) (fun _ _ q => q) up (fun _ _ _ q => q)⟩
  · have e : ds.length ≤ i := by
      have := congrArg List.length er
      rw [List.length_drop] at this
      have h0 : ([] : List Dl.D).length = 0 := rfl
      omega
    have : i = ds.length := by omega
    subst this
    exact done σ' G' hJ
theorem rngL_len {m : Int} {n : Nat} : (rngL m n).length = n := by unfold rngL; rw [List.length_map, List.length_range]
theorem rngL_get {m : Int} {n i : Nat} {d : Dl.D} (h : (rngL m n)[i]? = some d) : i < n ∧ d = .int (m + (i : Nat)) := by
  unfold rngL at h
  rw [List.getElem?_map] at h
  cases e : (List.range n)[i]? with
  | none => rw [e] at h; cases h
  | some j =>
    rw [e] at h
    obtain ⟨hi, ej⟩ := List.getElem?_eq_some_iff.mp e
    rw [List.getElem_range] at ej
    subst ej
    rw [List.length_range] at hi
    exact ⟨hi, (Option.some.inj h).symm⟩
/-- .. of range(m, ..), n turns -/
theorem rinv_ {m : Int} {n : Nat} {G1 : Pt} (J : Nat → Sd → Pt → Prop) (h0 : J 0 σd G1)
    (turn : ∀ i σ' G', i < n → J i σ' G' → TgD X tg (.int (m + (i : Nat))) σ' G' (fun σ2 G2 => SsD X body σ2 G2 ⟨J (i + 1), rt, nx, J (i + 1), ex⟩) ex) (done : ∀ σ' G', J n σ' G' → nx σ' G') :
    ∃ I : List Dl.D → Sd → Pt → Prop, I (rngL m n) σd G1 ∧
      (∀ d r σ' G', I (d :: r) σ' G' → True ∧ TgD X tg d σ' G' (fun σ2 G2 => SsD X body σ2 G2 ⟨I r, rt, nx, I r, ex⟩) ex) ∧ (∀ σ' G', I [] σ' G' → True ∧ nx σ' G') := by
  refine inv_ (stay := fun _ => True) J h0 (fun i d σ' G' hd hJ => ?_) fun σ' G' hJ => ⟨trivial, done σ' G' (by rw [rngL_len] at hJ; exact hJ)⟩
  obtain ⟨hi, rfl⟩ := rngL_get hd
  exact ⟨trivial, turn i σ' G' hi hJ⟩
/-- for x in range(e), for x in range(a, b) -/
theorem fr1_ {p : Pos} {j : Nat} (B : Bd X P w K mg base sc N Vs GN k) (hm : mg "range" = none) (hG : At GN j ("range" : Str))
    (h : EvD X a σd Gs (fun d G1 => ∃ n : Int, d = .int n ∧ -(2 ^ 62) ≤ n ∧ n < 2 ^ 62 ∧ ∃ J : Nat → Sd → Pt → Prop, J 0 σd G1 ∧
      (∀ (i : Nat) σ' G', (i : Int) < n → J i σ' G' → TgD X tg (.int (i : Nat)) σ' G' (fun σ2 G2 => SsD X body σ2 G2 ⟨J (i + 1), rt, nx, J (i + 1), ex⟩) ex) ∧ (∀ σ' G', J n.toNat σ' G' → nx σ' G')) ex)
    (hs : starEach [a] X.env = [(false, eval a X.env)] := by rfl) (hs2 : starEach [a] X.env = (false, eval a X.env) :: starEach [] X.env := by rfl) (hf : ∀ x, foldedSetIterable (.Call (.Name "range" p) [a] [] cpos) X.env x = pure x := by intro _; rfl) :
    StD X (.For tg (.Call (.Name "range" p) [a] [] cpos) body [] pos) σd Gs ⟨nx, rt, bk, ct, ex⟩ := by
  refine sfor_ B (rg1_ B hm hG (a_cons ?_ hs2) hs) hf
  intro pn xe E F σ H wh hE ob sl
  refine (h pn xe E F σ H wh hE ob sl).imp fun v H' ⟨d, G', a1, a2, a3, n, e1, h1, h2, J, j0, turn, done⟩ => ⟨d, G', a1, a2, a3, a_nil ⟨n, by rw [e1], h1, h2, ?_⟩⟩
  have := rinv_ (X := X) (tg := tg) (body := body) (rt := rt) (ex := ex) (nx := nx) (m := 0) (n := n.toNat) J j0 (fun i σ' G' hi hJ => by
    have := turn i σ' G' (by omega) hJ
    rw [Int.zero_add]
    exact this) done
  exact this
theorem fr2_ {p : Pos} {j : Nat} (B : Bd X P w K mg base sc N Vs GN k) (hm : mg "range" = none) (hG : At GN j ("range" : Str))
    (h : EvD X a σd Gs (fun d G1 => EvD X b σd G1 (fun d' G2 => ∃ m n : Int, d = .int m ∧ d' = .int n ∧ -(2 ^ 62) ≤ m ∧ m < 2 ^ 62 ∧ -(2 ^ 62) ≤ n ∧ n < 2 ^ 62 ∧ ∃ J : Nat → Sd → Pt → Prop, J 0 σd G2 ∧
      (∀ (i : Nat) σ' G', m + (i : Int) < n → J i σ' G' → TgD X tg (.int (m + (i : Nat))) σ' G' (fun σ2 G2 => SsD X body σ2 G2 ⟨J (i + 1), rt, nx, J (i + 1), ex⟩) ex) ∧ (∀ σ' G', J (n - m).toNat σ' G' → nx σ' G')) ex) ex)
    (hs : starEach [a, b] X.env = [(false, eval a X.env), (false, eval b X.env)] := by rfl) (hs2 : starEach [b] X.env = [(false, eval b X.env)] := by rfl) (hs3 : starEach [a, b] X.env = (false, eval a X.env) :: starEach [b] X.env := by rfl) (hs4 : starEach [b] X.env = (false, eval b X.env) :: starEach [] X.env := by rfl)
    (hf : ∀ x, foldedSetIterable (.Call (.Name "range" p) [a, b] [] cpos) X.env x = pure x := by intro _; rfl) :
    StD X (.For tg (.Call (.Name "range" p) [a, b] [] cpos) body [] pos) σd Gs ⟨nx, rt, bk, ct, ex⟩ := by
  refine sfor_ B (rg2_ B hm hG (a_cons ?_ hs3) hs hs2) hf
  intro pn xe E F σ H wh hE ob sl
  refine (h pn xe E F σ H wh hE ob sl).imp fun v H' ⟨d, G', a1, a2, a3, hh⟩ => ⟨d, G', a1, a2, a3, a_cons ?_ hs4⟩
  intro pn xe E F σ H wh hE ob sl
  refine (hh pn xe E F σ H wh hE ob sl).imp fun v H' ⟨d', G', a1, a2, a3, m, n, e1, e2, h1, h2, h3, h4, J, j0, turn, done⟩ => ⟨d', G', a1, a2, a3, a_nil ⟨m, n, by rw [e1, e2], h1, h2, h3, h4, ?_⟩⟩
  have := rinv_ (X := X) (tg := tg) (body := body) (rt := rt) (ex := ex) (nx := nx) (m := m) (n := (n - m).toNat) J j0 (fun i σ' G' hi hJ => turn i σ' G' (by omega) hJ) done
  exact this
/-- what holds behind a statement -/
theorem cut_ (M : Sd → Pt → Prop) (h : StD X st σd Gs ⟨M, rt, bk, ct, ex⟩) (k : ∀ σ G, M σ G → nx σ G) : StD X st σd Gs ⟨nx, rt, bk, ct, ex⟩ := fun pn xe E F σ H wh hE ob sl =>
  (h pn xe E F σ H wh hE ob sl).imp ⟨fun _ _ ⟨σ', G', a1, a2, a3, q⟩ => ⟨σ', G', a1, a2, a3, k _ _ q⟩, fun _ _ q => q, fun _ _ q => q, fun _ _ q => q⟩
end
end Dl
namespace Dl
open PySem PySem.Spec PyProof.Rows L2

/-! ### what the laws' own helpers promise -/
def spCell : SpD := fun ds Gs Q _ => ∃ (ns : List Int) (i : Int), ds = [.scr ns, .int i] ∧ 0 ≤ i ∧ Gs = [] ∧ ∀ v : Int, Q (.int v) []
def spDigits : SpD := fun ds Gs Q _ => ∃ ns : List Int, ds = [.scr ns, .int 0, .int 63] ∧ Gs = [] ∧ ∀ ms : List Int, ms.length ≤ 3780 → Q (.lst (ms.map .int)) []
def isBox (b : M) : Prop := ∃ (ms : List Int) (a : Int), b = .lst [.lst (ms.map .int), .int a] ∧ 0 ≤ a
def spDraw : SpD := fun ds Gs Q _ => ∃ (p : Addr) (b : M) (m : Int), ds = [.ref p, .int m] ∧ Gs = [[(p, b)]] ∧ isBox b ∧ 0 < m ∧ ∀ r b', 0 ≤ r → r < m → isBox b' → Q (.int r) [[(p, b')]]
theorem isBox_new (ms : List Int) : isBox (.lst [.lst (ms.map .int), .int 0]) := ⟨ms, 0, rfl, by decide⟩
/-! ### places of lists -/
theorem atI_in {α : Type} {l : List α} {i : Int} (h0 : 0 ≤ i) (h1 : i < (l.length : Int)) : ∃ x, atI l i = some x ∧ x ∈ l ∧ l[i.toNat]? = some x := by
  have hj : i.toNat < l.length := by omega
  have e : ixN l.length i = some i.toNat := by
    unfold ixN
    simp [h0, h1]
    try omega
  refine ⟨l[i.toNat], ?_, List.getElem_mem hj, List.getElem?_eq_getElem hj⟩
  unfold atI
  rw [e]
  exact List.getElem?_eq_getElem hj
theorem atI_map {α β : Type} {l : List α} {f : α → β} {i : Int} {x : α} (h : atI l i = some x) : atI (l.map f) i = some (f x) := by
  unfold atI at h ⊢
  rw [List.length_map]
  cases e : ixN l.length i with
  | none => rw [e] at h; cases h
  | some j =>
    rw [e] at h
    show (l.map f)[j]? = _
    rw [List.getElem?_map, show l[j]? = some x from h]
    rfl
theorem atI_mapin {α β : Type} {l : List α} {f : α → β} {i : Int} (h0 : 0 ≤ i) (h1 : i < ((l.map f).length : Int)) : ∃ x, atI (l.map f) i = some (f x) ∧ x ∈ l ∧ l[i.toNat]? = some x := by
  rw [List.length_map] at h1
  obtain ⟨x, e, h, g⟩ := atI_in h0 h1
  exact ⟨x, atI_map e, h, g⟩
/-- a place of a list that is written out -/
theorem ixN_in {n : Nat} {i : Int} (h0 : 0 ≤ i) (h1 : i < (n : Int)) : ixN n i = some i.toNat := by
  unfold ixN
  simp [h0, h1]
  try omega
/-! ### slices -/
def cutA {α : Type} (xs : List α) (lo hi : Option Int) : List α := (xs.drop (HT.sIx xs.length 0 lo)).take (HT.sIx xs.length xs.length hi - HT.sIx xs.length 0 lo)
theorem cutD_map {α : Type} (f : α → D) (l : List α) (lo hi : Option Int) : cutD (l.map f) lo hi = (cutA l lo hi).map f := by
  unfold cutD cutA
  rw [List.length_map, List.map_take, List.map_drop]
theorem sIx_some {n d : Nat} {i : Int} (h : 0 ≤ i) : HT.sIx n d (some i) = min i.toNat n := by
  have := HT.sIx_nat n d i.toNat
  rwa [Int.toNat_of_nonneg h] at this
theorem cutA_to {α : Type} {xs : List α} {i : Int} (h : 0 ≤ i) : cutA xs none (some i) = xs.take i.toNat := by
  unfold cutA
  rw [HT.sIx_none, sIx_some h, Nat.sub_zero, List.drop_zero]
  by_cases g : i.toNat ≤ xs.length
  · rw [Nat.min_eq_left g]
  · rw [Nat.min_eq_right (by omega), List.take_of_length_le (Nat.le_refl _), List.take_of_length_le (by omega)]
theorem cutA_from {α : Type} {xs : List α} {i : Int} (h : 0 ≤ i) : cutA xs (some i) none = xs.drop i.toNat := by
  unfold cutA
  rw [HT.sIx_none, sIx_some h]
  by_cases g : i.toNat ≤ xs.length
  · rw [Nat.min_eq_left g, List.take_of_length_le (by rw [List.length_drop]; exact Nat.le_refl _)]
  · rw [Nat.min_eq_right (by omega), List.drop_of_length_le (Nat.le_refl _), List.drop_of_length_le (by omega), List.take_nil]
theorem cutA_mid {α : Type} {xs : List α} {i j : Int} (h : 0 ≤ i) (g : 0 ≤ j) : cutA xs (some i) (some j) = (xs.drop i.toNat).take (j.toNat - i.toNat) := by
  unfold cutA
  rw [sIx_some h, sIx_some g]
  by_cases a : i.toNat ≤ xs.length
  · rw [Nat.min_eq_left a]
    by_cases b : j.toNat ≤ xs.length
    · rw [Nat.min_eq_left b]
    · rw [Nat.min_eq_right (by omega), List.take_of_length_le (by rw [List.length_drop]; omega), List.take_of_length_le (by rw [List.length_drop]; omega)]
  · have e : min i.toNat xs.length = xs.length := by omega
    rw [e, List.drop_of_length_le (Nat.le_refl _), List.drop_of_length_le (by omega), List.take_nil, List.take_nil]
/-! ### texts by their signs -/
def S (l : List Nat) : Str := ⟨l.toArray⟩
theorem S_cps (x : Str) : S x.cps.toList = x := by
  cases x
  rfl
theorem S_add (l m : List Nat) : S l ++ S m = S (l ++ m) := by
  show (⟨l.toArray ++ m.toArray⟩ : Str) = ⟨(l ++ m).toArray⟩
  rw [List.append_toArray]
theorem S_len (l : List Nat) : (S l).length = l.length := by
  show l.toArray.size = l.length
  exact List.size_toArray ..
theorem S_list (l : List Nat) : (S l).cps.toList = l := rfl
theorem S_inj {l m : List Nat} (h : S l = S m) : l = m := by
  have := congrArg (fun z : Str => z.cps.toList) h
  exact this
theorem S_cut (l : List Nat) (lo hi : Option Int) : cutS (S l) lo hi = S (cutA l lo hi) := by
  unfold cutS cutA
  rw [S_len, S_list]
  rfl
theorem S_sgn (l : List Nat) : sgnL (S l) = l.map fun ch => .str (S [ch]) := rfl
theorem S_join : ∀ ls : List (List Nat), Str.join Str.empty (ls.map S) = S ls.flatten
  | [] => rfl
  | [l] => by
    show S l = S ([l].flatten)
    rw [List.flatten_cons, List.flatten_nil, List.append_nil]
  | l :: m :: r => by
    show S l ++ Str.empty ++ Str.join Str.empty ((m :: r).map S) = _
    rw [S_join (m :: r), Str.append_empty, S_add, ← List.flatten_cons]
theorem S_joinT (ls : List (List Nat)) : Txt.join Str.empty (ls.map S) = S ls.flatten := by
  unfold Txt.join
  rw [StrLaws.glued_eq_join]
  exact S_join ls
/-! ### beginnings of lists -/
theorem take_one {α : Type} {l : List α} {i : Nat} {x : α} (h : l[i]? = some x) : l.take (i + 1) = l.take i ++ [x] := by
  rw [List.take_add_one, h]
  rfl
theorem all_no {α : Type} {l : List α} {i : Nat} {x : α} {p : α → Bool} (h : l[i]? = some x) (hp : p x = false) : l.all p = false := by
  rw [List.all_eq_false]
  exact ⟨x, List.mem_of_getElem? h, by rw [hp]; exact Bool.false_ne_true⟩
theorem any_yes {α : Type} {l : List α} {i : Nat} {x : α} {p : α → Bool} (h : l[i]? = some x) (hp : p x = true) : l.any p = true := by
  rw [List.any_eq_true]
  exact ⟨x, List.mem_of_getElem? h, hp⟩
end Dl
namespace Dl
open PySem PySem.Spec PyProof.Rows L2
section
variable {X : Cx} {P : Program} {w : World} {K : PySem.W.Frag} {mg : Str → Option Value} {base : Heap} {sc : Scope} {N : List Str} {Vs : List Nat} {GN : List Str} {k : Nat}
variable {σd : Sd} {Gs : Pt} {Q : QD} {R : RX} {e a b c o tg iter elt : Expr} {es rest : List Expr} {pos p2 apos cpos : Pos} {st : Stmt} {sts xs ys body : List Stmt}
variable {nx bk ct : Sd → Pt → Prop} {rt : QD} {ex : RX}
theorem map_get {α β : Type} {f : α → β} {l : List α} {i : Nat} {d : β} (h : (l.map f)[i]? = some d) : ∃ x, l[i]? = some x ∧ d = f x := by
  rw [List.getElem?_map] at h
  cases e : l[i]? with
  | none => rw [e] at h; cases h
  | some x => rw [e] at h; exact ⟨x, rfl, (Option.some.inj h).symm⟩
/-! ### for over lists, tuples, texts, by the place -/
theorem fl_ {α : Type} (f : α → D) (B : Bd X P w K mg base sc N Vs GN k)
    (h : EvD X iter σd Gs (fun d G1 => ∃ l : List α, d = .lst (l.map f) ∧ ∃ J : Nat → Sd → Pt → Prop, J 0 σd G1 ∧
      (∀ i x σ' G', l[i]? = some x → J i σ' G' → TgD X tg (f x) σ' G' (fun σ2 G2 => SsD X body σ2 G2 ⟨J (i + 1), rt, nx, J (i + 1), ex⟩) ex) ∧ (∀ σ' G', J l.length σ' G' → nx σ' G')) ex)
    (hf : ∀ x, foldedSetIterable iter X.env x = pure x := by intro _; rfl) : StD X (.For tg iter body [] pos) σd Gs ⟨nx, rt, bk, ct, ex⟩ := by
  refine sfor_ B (it_lst ?_) hf
  intro pn xe E F σ H wh hE ob sl
  refine (h pn xe E F σ H wh hE ob sl).imp fun v H' ⟨d, G', a1, a2, a3, l, e1, J, j0, turn, done⟩ => ⟨d, G', a1, a2, a3, l.map f, e1, ?_⟩
  refine inv_ (stay := fun _ => True) J j0 (fun i d σ' G' hd hJ => ?_) fun σ' G' hJ => ⟨trivial, done σ' G' (by rw [List.length_map] at hJ; exact hJ)⟩
  obtain ⟨x, hx, rfl⟩ := map_get hd
  exact ⟨trivial, turn i x σ' G' hx hJ⟩
theorem ft_ {α : Type} (f : α → D) (B : Bd X P w K mg base sc N Vs GN k)
    (h : EvD X iter σd Gs (fun d G1 => ∃ l : List α, d = .tup (l.map f) ∧ ∃ J : Nat → Sd → Pt → Prop, J 0 σd G1 ∧
      (∀ i x σ' G', l[i]? = some x → J i σ' G' → TgD X tg (f x) σ' G' (fun σ2 G2 => SsD X body σ2 G2 ⟨J (i + 1), rt, nx, J (i + 1), ex⟩) ex) ∧ (∀ σ' G', J l.length σ' G' → nx σ' G')) ex)
    (hf : ∀ x, foldedSetIterable iter X.env x = pure x := by intro _; rfl) : StD X (.For tg iter body [] pos) σd Gs ⟨nx, rt, bk, ct, ex⟩ := by
  refine sfor_ B (it_tup ?_) hf
  intro pn xe E F σ H wh hE ob sl
  refine (h pn xe E F σ H wh hE ob sl).imp fun v H' ⟨d, G', a1, a2, a3, l, e1, J, j0, turn, done⟩ => ⟨d, G', a1, a2, a3, l.map f, e1, ?_⟩
  refine inv_ (stay := fun _ => True) J j0 (fun i d σ' G' hd hJ => ?_) fun σ' G' hJ => ⟨trivial, done σ' G' (by rw [List.length_map] at hJ; exact hJ)⟩
  obtain ⟨x, hx, rfl⟩ := map_get hd
  exact ⟨trivial, turn i x σ' G' hx hJ⟩
theorem fs_ (B : Bd X P w K mg base sc N Vs GN k)
    (h : EvD X iter σd Gs (fun d G1 => ∃ l : List Nat, d = .str (S l) ∧ ∃ J : Nat → Sd → Pt → Prop, J 0 σd G1 ∧
      (∀ i x σ' G', l[i]? = some x → J i σ' G' → TgD X tg (.str (S [x])) σ' G' (fun σ2 G2 => SsD X body σ2 G2 ⟨J (i + 1), rt, nx, J (i + 1), ex⟩) ex) ∧ (∀ σ' G', J l.length σ' G' → nx σ' G')) ex)
    (hf : ∀ x, foldedSetIterable iter X.env x = pure x := by intro _; rfl) : StD X (.For tg iter body [] pos) σd Gs ⟨nx, rt, bk, ct, ex⟩ := by
  refine sfor_ B (it_str ?_) hf
  intro pn xe E F σ H wh hE ob sl
  refine (h pn xe E F σ H wh hE ob sl).imp fun v H' ⟨d, G', a1, a2, a3, l, e1, J, j0, turn, done⟩ => ⟨d, G', a1, a2, a3, S l, e1, ?_⟩
  rw [S_sgn]
  refine inv_ (stay := fun _ => True) J j0 (fun i d σ' G' hd hJ => ?_) fun σ' G' hJ => ⟨trivial, done σ' G' (by rw [List.length_map] at hJ; exact hJ)⟩
  obtain ⟨x, hx, rfl⟩ := map_get hd
  exact ⟨trivial, turn i x σ' G' hx hJ⟩
/-- over a list of one's own: it stays all the time -/
theorem fo_ {α : Type} (f : α → D) (B : Bd X P w K mg base sc N Vs GN k)
    (h : EvD X iter σd Gs (fun d G1 => ∃ (p : Addr) (l : List α), d = .ref p ∧ Has G1 p (.lst (l.map f)) ∧ ∃ J : Nat → Sd → Pt → Prop, J 0 σd G1 ∧
      (∀ i x σ' G', l[i]? = some x → J i σ' G' → Has G' p (.lst (l.map f)) ∧ TgD X tg (f x) σ' G' (fun σ2 G2 => SsD X body σ2 G2 ⟨J (i + 1), rt, nx, J (i + 1), ex⟩) ex) ∧ (∀ σ' G', J l.length σ' G' → Has G' p (.lst (l.map f)) ∧ nx σ' G')) ex)
    (hf : ∀ x, foldedSetIterable iter X.env x = pure x := by intro _; rfl) : StD X (.For tg iter body [] pos) σd Gs ⟨nx, rt, bk, ct, ex⟩ := by
  refine sfor_ B (it_own ?_) hf
  intro pn xe E F σ H wh hE ob sl
  refine (h pn xe E F σ H wh hE ob sl).imp fun v H' ⟨d, G', a1, a2, a3, p, l, e1, hp, J, j0, turn, done⟩ => ⟨d, G', a1, a2, a3, p, l.map f, e1, hp, ?_⟩
  refine inv_ (stay := fun G' => Has G' p (.lst (l.map f))) J j0 (fun i d σ' G' hd hJ => ?_) fun σ' G' hJ => done σ' G' (by rw [List.length_map] at hJ; exact hJ)
  obtain ⟨x, hx, rfl⟩ := map_get hd
  exact turn i x σ' G' hx hJ

/-! ### list comprehensions -/
theorem set_none {α : Type} {l : List (Option α)} {j : Nat} {x : Option α} : (l.set j none).set j x = l.set j x := List.set_set ..
/-- by the number of turns done -/
theorem lci_ {ds : List D} {stay : Pt → Prop} {G1 : Pt} {T : D → List D → Pt → (List D → Pt → Prop) → (Pt → Prop) → Prop} (J : Nat → List D → Pt → Prop) (h0 : J 0 [] G1)
    (mono : ∀ d acc G A A' B B', T d acc G A B → (∀ x y, A x y → A' x y) → (∀ y, B y → B' y) → T d acc G A' B')
    (turn : ∀ i d acc G', ds[i]? = some d → J i acc G' → stay G' ∧ T d acc G' (J (i + 1)) (J (i + 1) acc)) (done : ∀ acc G', J ds.length acc G' → stay G' ∧ Q (.lst acc) G') :
    ∃ I : List D → List D → Pt → Prop, I ds [] G1 ∧ (∀ d r acc G', I (d :: r) acc G' → stay G' ∧ T d acc G' (I r) (I r acc)) ∧ (∀ acc G', I [] acc G' → stay G' ∧ Q (.lst acc) G') := by
  refine ⟨fun r acc G' => ∃ i, r = ds.drop i ∧ i ≤ ds.length ∧ J i acc G', ⟨0, rfl, Nat.zero_le _, h0⟩, fun d r acc G' ⟨i, er, hi, hJ⟩ => ?_, fun acc G' ⟨i, er, hi, hJ⟩ => ?_⟩
  · have hlt : i < ds.length := by
      rcases Nat.lt_or_ge i ds.length with h | h
      · exact h
      · rw [List.drop_eq_nil_of_le h] at er
        cases er
    have hd : ds[i]? = some ds[i] := List.getElem?_eq_getElem hlt
    rw [drop_cons hd] at er
    obtain ⟨e1, e2⟩ := List.cons.inj er
    subst e1
    obtain ⟨s1, s2⟩ := turn i _ acc G' hd hJ
    exact ⟨s1, mono _ _ _ _ _ _ _ s2 (fun x y h => ⟨i + 1, e2, hlt, h⟩) fun y h => ⟨i + 1, e2, hlt, h⟩⟩
  · have e : ds.length ≤ i := by
      have := congrArg List.length er
      rw [List.length_drop] at this
      have h0 : ([] : List D).length = 0 := rfl
      omega
    have : i = ds.length := by omega
    subst this
    exact done acc G' hJ
/-- one turn of [elt for x in ..] -/
def T1 (P : Program) (w : World) (K : PySem.W.Frag) (mg : Str → Option Value) (base : Heap) (scb : Scope) (N : List Str) (V' : List Nat) (GN' : List Str) (k : Nat) (elt : Expr) (ifs : List Expr) (j : Nat) (σd : Sd) (d : D) (acc : List D) (G' : Pt) (A : List D → Pt → Prop) (B : Pt → Prop) : Prop :=
  ∃ σ', SetAt σd j (some d) σ' ∧ ∀ Y, Bd Y P w K mg base scb N V' GN' k → match ifs with
    | [] => EvD Y elt σ' G' (fun y G4 => acc.length < sizeLine ∧ A (acc ++ [y]) G4) R0
    | [c] => EvT Y c σ' G' (fun t G3 => (t = true → ∀ Z, Bd Z P w K mg base scb N V' GN' k → EvD Z elt σ' G3 (fun y G4 => acc.length < sizeLine ∧ A (acc ++ [y]) G4) R0) ∧ (t = false → B G3)) R0
    | _ => False
theorem EvD.imp {Q' : QD} (h : EvD X e σd Gs Q R) (k : ∀ d G, Q d G → Q' d G) : EvD X e σd Gs Q' R := fun pn xe E F σ H wh hE ob sl =>
  (h pn xe E F σ H wh hE ob sl).imp fun v H' ⟨d, G', a1, a2, a3, q⟩ => ⟨d, G', a1, a2, a3, k _ _ q⟩
theorem EvT.imp {Q Q' : QT} (h : EvT X e σd Gs Q R) (k : ∀ d G, Q d G → Q' d G) : EvT X e σd Gs Q' R := fun pn xe E F σ H wh hE ob sl =>
  (h pn xe E F σ H wh hE ob sl).imp fun v H' ⟨G', a1, a2, q⟩ => ⟨G', a1, a2, k _ _ q⟩
theorem EvD.ri {R' : RX} (h : EvD X e σd Gs Q R) (k : ∀ C fs G, R C fs G → R' C fs G) : EvD X e σd Gs Q R' := fun pn xe E F σ H wh hE ob sl =>
  h pn xe E F σ H wh (fun c od H' ⟨C, fs, G', e1, e2, e3, e4, q⟩ => hE c od H' ⟨C, fs, G', e1, e2, e3, e4, k _ _ _ q⟩) ob sl
theorem T1.mono {scb : Scope} {V' : List Nat} {GN' : List Str} {ifs : List Expr} {j : Nat} (d : D) (acc : List D) (G : Pt) (A A' : List D → Pt → Prop) (B B' : Pt → Prop) (h : T1 P w K mg base scb N V' GN' k elt ifs j σd d acc G A B)
    (ha : ∀ x y, A x y → A' x y) (hb : ∀ y, B y → B' y) : T1 P w K mg base scb N V' GN' k elt ifs j σd d acc G A' B' := by
  obtain ⟨σ', h1, h2⟩ := h
  refine ⟨σ', h1, fun Y BY => ?_⟩
  have h3 := h2 Y BY
  match ifs, h3 with
  | [], h3 => exact EvD.imp h3 fun y G4 ⟨z, q⟩ => ⟨z, ha _ _ q⟩
  | [c], h3 => exact EvT.imp h3 fun t G3 ⟨q1, q2⟩ => ⟨fun e Z BZ => EvD.imp (q1 e Z BZ) fun y G4 ⟨z, q⟩ => ⟨z, ha _ _ q⟩, fun e => hb _ (q2 e)⟩
theorem lcI_of {x : Str} {px : Pos} {scope : Scope} {V' : List Nat} {GN' : List Str} {ifs : List Expr} {j : Nat}
    (h : ItE X (.Name x px) iter σd Gs (fun ds stay G1 => ∃ J : Nat → List D → Pt → Prop, J 0 [] G1 ∧ (∀ i d acc G', ds[i]? = some d → J i acc G' → stay G' ∧ T1 P w K mg base (relS scope sc) N V' GN' k elt ifs j σd d acc G' (J (i + 1)) (J (i + 1) acc)) ∧ (∀ acc G', J ds.length acc G' → stay G' ∧ Q (.lst acc) G')) R) :
    LcI X P w K mg base sc N k (.Name x px) iter elt ifs scope [j] V' GN' (fun _ => True) (fun σ d => σ.set j (some d)) σd Gs Q R := by
  intro pn xe E F σ H wh hE ob sl
  refine semPI_imp (h pn xe E F σ H wh hE ob sl) fun Jt H1 ⟨ds, stay, G1, a1, a2, a3, J, j0, turn, done⟩ => ⟨ds, stay, G1, a1, a2, a3, ?_⟩
  obtain ⟨I, i0, it, id⟩ := lci_ (Q := Q) (T := T1 P w K mg base (relS scope sc) N V' GN' k elt ifs j σd) J j0 T1.mono turn done
  refine ⟨I, i0, fun d r acc G' hI => ?_, id⟩
  obtain ⟨hs, σ', hσ, hT⟩ := it d r acc G' hI
  refine ⟨hs, trivial, fun Y BY => ?_⟩
  have es : (wipeD σd [j]).set j (some d) = σ' := by
    show (σd.set j none).set j (some d) = σ'
    rw [set_none, hσ.eq]
  show IfsD Y ifs ((wipeD σd [j]).set j (some d)) G' _
  rw [es]
  match ifs, hT with
  | [], hT =>
    refine ⟨fun _ Z BZ => ?_, fun z => nomatch z⟩
    show EvD Z elt ((wipeD σd [j]).set j (some d)) G' _ R0
    rw [es]
    exact hT Z BZ
  | [c], hT =>
    refine EvT.imp (hT Y BY) fun t G3 ⟨q1, q2⟩ => ⟨fun et Z BZ => ?_, q2⟩
    show EvD Z elt ((wipeD σd [j]).set j (some d)) G3 _ R0
    rw [es]
    exact q1 et Z BZ
  | _ :: _ :: _, hT => exact (hT Y BY).elim
/-- [elt for x in iter (if c)], by the number of turns done -/
theorem lc_ {x : Str} {px : Pos} {scope : Scope} {ifs : List Expr} {j : Nat} (own : List (Str × Nat)) (V' : List Nat) (GN' : List Str) (hown : own = [(x, j)]) (B : Bd X P w K mg base sc N Vs GN k) (hN : At N j x) (hV : V'[j]? = some 2) (hb : blkC N sc scope own = true) (hn : blkNC scope sc N V' GN' = true)
    (h : ItE X (.Name x px) iter σd Gs (fun ds stay G1 => ∃ J : Nat → List D → Pt → Prop, J 0 [] G1 ∧ (∀ i d acc G', ds[i]? = some d → J i acc G' → stay G' ∧ T1 P w K mg base (relS scope sc) N V' GN' k elt ifs j σd d acc G' (J (i + 1)) (J (i + 1) acc)) ∧ (∀ acc G', J ds.length acc G' → stay G' ∧ Q (.lst acc) G')) R)
    (hs : ∀ x, foldedSetIterable iter X.env x = pure x := by intro _; rfl) : EvD X (.ListComp elt [⟨.Name x px, iter, ifs, 0⟩] scope pos) σd Gs Q R := by
  subst hown
  exact e_lc B hb hn (ctg_name B hn hN.get hV (List.mem_singleton.mpr rfl)) (lcI_of h) hs
/-- .. and stored -/
theorem slc1_ {x y : Str} {px py spos : Pos} {scope : Scope} {ifs : List Expr} {i j : Nat} (own : List (Str × Nat)) (V' : List Nat) (GN' : List Str) (hown : own = [(x, j)]) (B : Bd X P w K mg base sc N Vs GN k) (hNy : At N i y) (hN : At N j x) (hV : V'[j]? = some 2) (hyl : sc.names.lookup y = some .local) (hk : sc.kind = .function)
    (hl : (py.line == pos.line) = true) (hsw : (scope.names.any fun (n, k) => n == y && (k == .local || k == .cell)) = false) (hb : blkC N sc scope own = true) (hn : blkNC scope sc N V' GN' = true)
    (h : ItE X (.Name x px) iter σd Gs (fun ds stay G1 => ∃ J : Nat → List D → Pt → Prop, J 0 [] G1 ∧ (∀ i d acc G', ds[i]? = some d → J i acc G' → stay G' ∧ T1 P w K mg base (relS scope sc) N V' GN' k elt ifs j σd d acc G' (J (i + 1)) (J (i + 1) acc)) ∧ (∀ acc G', J ds.length acc G' → stay G' ∧ ∃ σ', SetAt σd i (some (.lst acc)) σ' ∧ nx σ' G')) ex)
    (hs : ∀ x, foldedSetIterable iter X.env x = pure x := by intro _; rfl) : StD X (.Assign [.Name y py] (.ListComp elt [⟨.Name x px, iter, ifs, 0⟩] scope pos) spos) σd Gs ⟨nx, rt, bk, ct, ex⟩ := by
  subst hown
  refine slc_ B hNy hyl hk hl hsw hb hn (ctg_name B hn hN.get hV (List.mem_singleton.mpr rfl)) (lcI_of (Q := fun d G => ∃ σ', SetAt σd i (some d) σ' ∧ nx σ' G) ?_) hs
  exact h
/-- a frozen list walked by a comprehension -/
theorem il_ {α : Type} (f : α → D) {x : Expr} {T : Nat → D → List D → Pt → (Nat → List D → Pt → Prop) → Prop} {Z : List D → Pt → Prop} (h : EvD X iter σd Gs (fun d G1 => ∃ l : List α, d = .lst (l.map f) ∧ ∃ J : Nat → List D → Pt → Prop, J 0 [] G1 ∧ (∀ i x acc G', l[i]? = some x → J i acc G' → T i (f x) acc G' J) ∧ (∀ acc G', J l.length acc G' → Z acc G')) R) :
    ItE X x iter σd Gs (fun ds stay G1 => ∃ J : Nat → List D → Pt → Prop, J 0 [] G1 ∧ (∀ i d acc G', ds[i]? = some d → J i acc G' → stay G' ∧ T i d acc G' J) ∧ (∀ acc G', J ds.length acc G' → stay G' ∧ Z acc G')) R := by
  refine it_lst (EvD.imp h fun d G ⟨l, e, J, j0, turn, done⟩ => ⟨l.map f, e, J, j0, fun i d acc G' hd hJ => ?_, fun acc G' hJ => ⟨trivial, done acc G' (by rw [List.length_map] at hJ; exact hJ)⟩⟩)
  obtain ⟨x, hx, rfl⟩ := map_get hd
  exact ⟨trivial, turn i x acc G' hx hJ⟩
theorem itp_ {α : Type} (f : α → D) {x : Expr} {T : Nat → D → List D → Pt → (Nat → List D → Pt → Prop) → Prop} {Z : List D → Pt → Prop} (h : EvD X iter σd Gs (fun d G1 => ∃ l : List α, d = .tup (l.map f) ∧ ∃ J : Nat → List D → Pt → Prop, J 0 [] G1 ∧ (∀ i x acc G', l[i]? = some x → J i acc G' → T i (f x) acc G' J) ∧ (∀ acc G', J l.length acc G' → Z acc G')) R) :
    ItE X x iter σd Gs (fun ds stay G1 => ∃ J : Nat → List D → Pt → Prop, J 0 [] G1 ∧ (∀ i d acc G', ds[i]? = some d → J i acc G' → stay G' ∧ T i d acc G' J) ∧ (∀ acc G', J ds.length acc G' → stay G' ∧ Z acc G')) R := by
  refine it_tup (EvD.imp h fun d G ⟨l, e, J, j0, turn, done⟩ => ⟨l.map f, e, J, j0, fun i d acc G' hd hJ => ?_, fun acc G' hJ => ⟨trivial, done acc G' (by rw [List.length_map] at hJ; exact hJ)⟩⟩)
  obtain ⟨x, hx, rfl⟩ := map_get hd
  exact ⟨trivial, turn i x acc G' hx hJ⟩
theorem is_ {x : Expr} {T : Nat → D → List D → Pt → (Nat → List D → Pt → Prop) → Prop} {Z : List D → Pt → Prop} (h : EvD X iter σd Gs (fun d G1 => ∃ l : List Nat, d = .str (S l) ∧ ∃ J : Nat → List D → Pt → Prop, J 0 [] G1 ∧ (∀ i x acc G', l[i]? = some x → J i acc G' → T i (.str (S [x])) acc G' J) ∧ (∀ acc G', J l.length acc G' → Z acc G')) R) :
    ItE X x iter σd Gs (fun ds stay G1 => ∃ J : Nat → List D → Pt → Prop, J 0 [] G1 ∧ (∀ i d acc G', ds[i]? = some d → J i acc G' → stay G' ∧ T i d acc G' J) ∧ (∀ acc G', J ds.length acc G' → stay G' ∧ Z acc G')) R := by
  refine it_str (EvD.imp h fun d G ⟨l, e, J, j0, turn, done⟩ => ⟨S l, e, J, j0, fun i d acc G' hd hJ => ?_, fun acc G' hJ => ⟨trivial, done acc G' (by rw [S_sgn, List.length_map] at hJ; exact hJ)⟩⟩)
  rw [S_sgn] at hd
  obtain ⟨x, hx, rfl⟩ := map_get hd
  exact ⟨trivial, turn i x acc G' hx hJ⟩
theorem ir1_ {p : Pos} {j : Nat} {x : Expr} {T : Nat → D → List D → Pt → (Nat → List D → Pt → Prop) → Prop} {Z : List D → Pt → Prop} (B : Bd X P w K mg base sc N Vs GN k) (hm : mg "range" = none) (hG : At GN j ("range" : Str))
    (h : EvD X a σd Gs (fun d G1 => ∃ n : Int, d = .int n ∧ -(2 ^ 62) ≤ n ∧ n < 2 ^ 62 ∧ ∃ J : Nat → List D → Pt → Prop, J 0 [] G1 ∧ (∀ (i : Nat) acc G', (i : Int) < n → J i acc G' → T i (.int (i : Nat)) acc G' J) ∧ (∀ acc G', J n.toNat acc G' → Z acc G')) R)
    (hs : starEach [a] X.env = [(false, eval a X.env)] := by rfl) (hs2 : starEach [a] X.env = (false, eval a X.env) :: starEach [] X.env := by rfl) :
    ItE X x (.Call (.Name "range" p) [a] [] cpos) σd Gs (fun ds stay G1 => ∃ J : Nat → List D → Pt → Prop, J 0 [] G1 ∧ (∀ i d acc G', ds[i]? = some d → J i acc G' → stay G' ∧ T i d acc G' J) ∧ (∀ acc G', J ds.length acc G' → stay G' ∧ Z acc G')) R := by
  refine rg1_ B hm hG (a_cons ?_ hs2) hs
  refine EvD.imp h fun d G ⟨n, e1, h1, h2, J, j0, turn, done⟩ => a_nil ⟨n, by rw [e1], h1, h2, J, j0, fun i d acc G' hd hJ => ?_, fun acc G' hJ => ⟨trivial, done acc G' (by rw [rngL_len] at hJ; exact hJ)⟩⟩
  obtain ⟨hi, rfl⟩ := rngL_get hd
  rw [Int.zero_add]
  exact ⟨trivial, turn i acc G' (by omega) hJ⟩
theorem t_chain {Q : QT} {op op' : CmpOp} (h : EvD X a σd Gs (fun x G1 => EvD X b σd G1 (fun y G2 => CmpD X op x y G2 (fun z G3 => ∃ t, z = .bl t ∧ if t = true then EvD X c σd G3 (fun u G4 => CmpD X op' y u G4 (QB Q)) R else Q false G3)) R) R)
    (hm : lastMarks [op, op'] [b, c] = false := by with_unfolding_all rfl) : EvT X (.Compare a [op, op'] [b, c] pos) σd Gs Q R := by
  intro pn xe E F σ H wh hE ob sl
  refine (pt_chain (X := X.tr pn xe) semO_self semO_self PE.self PE.self PE.self hm).get ?_
  refine h.go wh hE Keep.refl ob sl fun v H1 x G1 ob1 k1 _ sl1 rx h1 => ?_
  refine h1.go wh hE k1 ob1 sl1 fun u H2 y G2 ob2 k2 k12 sl2 ry ⟨r, hr, ho⟩ => ?_
  refine semO_imp (semO_get (hr pn xe) (ho F H2 v u ob2 (RD.keep k12 _ _ rx) ry)) fun z H3 p => ?_
  obtain ⟨d, G3, ob3, k3, rd, t, rfl, q⟩ := p
  refine ⟨t, rd, ?_⟩
  cases t with
  | true =>
    rw [if_pos rfl] at q ⊢
    refine q.go wh hE (k2.trans k3) ob3 (sl2.keep k3) fun u4 H4 y4 G4 ob4 k4 k34 sl4 r4 ⟨r', hr', ho'⟩ => ?_
    refine semO_imp (semO_get (hr' pn xe) (ho' F H4 u u4 ob4 (RD.keep (k3.trans k34) _ _ ry) r4)) fun z' H5 p => ?_
    obtain ⟨d5, G5, ob5, k5, rd5, b5, rfl, q5⟩ := p
    exact ⟨b5, rd5, G5, ob5, k4.trans k5, q5⟩
  | false =>
    rw [if_neg Bool.false_ne_true] at q ⊢
    exact ⟨false, rfl, G3, ob3, k2.trans k3, q⟩
/-! ### several targets, slices of lists that are maps -/
theorem tgs_c {t : Expr} {ts : List Expr} {d : D} {r : List D} {Z : Sd → Pt → Prop} (h : TgD X t d σd Gs (fun σ' G' => TgsD X ts r σ' G' Z R) R) (hs : (assignEach (t :: ts) X.env).map (·.2) = assign t X.env :: (assignEach ts X.env).map (·.2) := by rfl) : TgsD X (t :: ts) (d :: r) σd Gs Z R := ⟨d, r, rfl, hs, h⟩
theorem tgs_n {Z : Sd → Pt → Prop} (q : Z σd Gs) : TgsD X [] [] σd Gs Z R := ⟨rfl, q⟩
theorem si_lm {α : Type} {f : α → D} {l : List α} {lo hi : Option Int} (q : Q (.lst ((cutA l lo hi).map f)) Gs) : SliD X (.lst (l.map f)) lo hi Gs Q := si_lst (by rw [cutD_map]; exact q)
theorem si_om {α : Type} {f : α → D} {p : Addr} {l : List α} {lo hi : Option Int} (h : Has Gs p (.lst (l.map f))) (q : Q (.lst ((cutA l lo hi).map f)) Gs) : SliD X (.ref p) lo hi Gs Q := si_own h (by rw [cutD_map]; exact q)
theorem si_S {l : List Nat} {lo hi : Option Int} (hz : l.length ≤ sizeLine) (q : Q (.str (S (cutA l lo hi))) Gs) : SliD X (.str (S l)) lo hi Gs Q := si_str (by rw [S_len]; exact hz) (by rw [S_cut]; exact q)
theorem b_addSS {l m : List Nat} (h : l.length + m.length ≤ sizeLine) (q : Q (.str (S (l ++ m))) Gs) : BinD X .Add (.str (S l)) (.str (S m)) Gs Q := b_addS (by rw [S_len, S_len]; exact h) (by rw [S_add]; exact q)
theorem ix_S {l : List Nat} {i : Int} {ch : Nat} (hz : l.length ≤ sizeLine) (h : atI l i = some ch) (q : Q (.str (S [ch])) Gs) : IxD X (.str (S l)) (.int i) Gs Q := ix_st (by rw [S_len]; exact hz) h q
theorem k_lenM {α : Type} {f : α → D} {x : D} {l : List α} (hx : LsD X.K Gs x (l.map f)) (q : Q (.int l.length) Gs) : CalD X (.builtin "len") [x] Gs Q := k_lenL hx (by rw [List.length_map]; exact q)
theorem k_lenSS {l : List Nat} (hz : l.length ≤ sizeLine) (q : Q (.int l.length) Gs) : CalD X (.builtin "len") [.str (S l)] Gs Q := k_lenS (by rw [S_len]; exact hz) (by rw [S_len]; exact q)
theorem tgt_ {ts : List Expr} {kk : Nat} {ds : List D} {Z : Sd → Pt → Prop} (B : Bd X P w K mg base sc N Vs GN k) (hl : ds.length = ts.length) (h : TgsD X ts ds σd Gs Z R)
    (hn : (assignEach ts X.env).length = ts.length := by rfl) (hst : (assignEach ts X.env).findIdx? (·.1) = none := by rfl) : TgD X (.Tuple ts kk pos) (.tup ds) σd Gs Z R := tg_tup B.calm hl h hn hst
theorem tgl_ {ts : List Expr} {kk : Nat} {ds : List D} {Z : Sd → Pt → Prop} (B : Bd X P w K mg base sc N Vs GN k) (hl : ds.length = ts.length) (h : TgsD X ts ds σd Gs Z R)
    (hn : (assignEach ts X.env).length = ts.length := by rfl) (hst : (assignEach ts X.env).findIdx? (·.1) = none := by rfl) : TgD X (.Tuple ts kk pos) (.lst ds) σd Gs Z R := tg_lst B.calm ls_val hl h hn hst
theorem trb_ {Z : Bool → Prop} {t : Bool} (q : Z t) : ∃ u, TruD K (.bl t) Gs u ∧ Z u := tru_bl (Q := fun u _ => Z u) q
theorem tri_ {Z : Bool → Prop} {i : Int} (q : Z (i != 0)) : ∃ u, TruD K (.int i) Gs u ∧ Z u := tru_int (Q := fun u _ => Z u) q
theorem trn_ {Z : Bool → Prop} (q : Z false) : ∃ u, TruD K .non Gs u ∧ Z u := tru_non (Q := fun u _ => Z u) q
theorem trs_ {Z : Bool → Prop} {x : Str} (hz : x.length ≤ sizeLine) (q : Z ((x.length : Int) != 0)) : ∃ u, TruD K (.str x) Gs u ∧ Z u := tru_str (Q := fun u _ => Z u) hz q
theorem trl_ {Z : Bool → Prop} {ds : List D} (q : Z (!ds.isEmpty)) : ∃ u, TruD K (.lst ds) Gs u ∧ Z u := tru_lst (Q := fun u _ => Z u) q
theorem trt_ {Z : Bool → Prop} {ds : List D} (q : Z (!ds.isEmpty)) : ∃ u, TruD K (.tup ds) Gs u ∧ Z u := tru_tup (Q := fun u _ => Z u) q
theorem tro_ {Z : Bool → Prop} {p : Addr} {ds : List D} (h : Has Gs p (.lst ds)) (q : Z (!ds.isEmpty)) : ∃ u, TruD K (.ref p) Gs u ∧ Z u := tru_own (Q := fun u _ => Z u) h q
theorem trd_ {Z : Bool → Prop} {p : Addr} {kvs : List (Key × D)} (h : Has Gs p (.dK kvs)) (q : Z (!kvs.isEmpty)) : ∃ u, TruD K (.ref p) Gs u ∧ Z u := tru_dct (Q := fun u _ => Z u) h q
end
end Dl
namespace Dl
open PySem PySem.Spec PyProof.Rows L2
/-- a part and what stands when it is exchanged -/
inductive Spot : Pt → List Cell → (List Cell → Pt) → Prop
  | here {P : List Cell} {r : Pt} : Spot (P :: r) P (fun P' => P' :: r)
  | next {P Z : List Cell} {r : Pt} {f : List Cell → Pt} : Spot r P f → Spot (Z :: r) P (fun P' => Z :: f P')
theorem Spot.take {G : Pt} {P : List Cell} {f : List Cell → Pt} (s : Spot G P f) : ∃ Rest, Take G P Rest ∧ ∀ P', (P' ++ Rest.flatten).Perm (f P').flatten := by
  induction s with
  | here => exact ⟨_, .here, fun P' => .refl _⟩
  | next _ ih =>
    obtain ⟨Rest, t, h⟩ := ih
    refine ⟨_, .next t, fun P' => ?_⟩
    rw [List.flatten_cons, List.flatten_cons, ← List.append_assoc]
    exact (List.perm_append_comm.append_right _).trans (by rw [List.append_assoc]; exact (h P').append_left _)
section
variable {X : Cx} {P : Program} {w : World} {K : PySem.W.Frag} {mg : Str → Option Value} {base : Heap} {sc : Scope} {N : List Str} {Vs : List Nat} {GN : List Str} {k : Nat}
variable {σd : Sd} {Gs : Pt} {Q : QD} {R : RX} {e a b c o tg iter elt : Expr} {es rest : List Expr} {pos p2 apos cpos : Pos} {st : Stmt} {sts xs ys body : List Stmt}
variable {nx bk ct : Sd → Pt → Prop} {rt : QD} {ex : RX}
/-- the cells of G' are some of those of G -/
def Sb (G' G : Pt) : Prop := ∀ F : List Cell, (tot G' F).Sublist (tot G F) ∨ (tot G' F).Perm (tot G F)
theorem Sb.refl {G : Pt} : Sb G G := fun F => .inr (.refl _)
theorem Sb.drop {Ps G : Pt} : Sb G (Ps ++ G) := fun F => .inl (by
  unfold tot
  rw [List.flatten_append, List.append_assoc]
  exact List.sublist_append_right ..)
theorem Ob.re {G G' : Pt} {F : List Cell} {H : Hp} (ob : Ob K (tot G F) H) (p : Sb G' G) : (∀ x, x ∉ dm (tot G F) → x ∉ dm (tot G' F)) ∧ Ob K (tot G' F) H := by
  rcases p F with q | q
  · exact ⟨fun x hx hx' => hx ((q.map (fun c : Cell => c.1)).subset hx'), ob.sub q⟩
  · exact ⟨fun x hx hx' => hx ((q.map (fun c : Cell => c.1)).mem_iff.mp hx'), ob.perm q⟩
theorem Post.re {F : List Cell} {G0 : Pt} {H0 : Hp} {v : V} {H' : Hp} {Z : QD} (h : Post K F G0 H0 Z v H') (k : ∀ d G, Z d G → ∃ G', Sb G' G ∧ Q d G') : Post K F G0 H0 Q v H' := by
  obtain ⟨d, G, ob, kp, r, z⟩ := h
  obtain ⟨G', p, q⟩ := k d G z
  obtain ⟨kk, ob'⟩ := ob.re p
  exact ⟨d, G', ob', kp.trans (Keep.self kk), RD.perm kk _ _ r, q⟩
/-- how a callee's end is taken -/
structure Tk (sp : SpD) (ds : List D) (G : Pt) (Q : QD) (R : RX) (Ps Rest : Pt) (Qd : QD) (Rd : RX) : Prop where
  pk : Pick G Ps Rest
  sp : sp ds Ps Qd Rd
  ok : ∀ d Ps', Qd d Ps' → ∃ G', Sb G' (Ps' ++ Rest) ∧ Q d G'
  no : ∀ C fs Ps', Rd C fs Ps' → R C fs (Ps' ++ Rest)
theorem run_tk {F : List Cell} {H H1 : Hp} {G1 Ps Rest : Pt} {Qd : QD} {Rd : RX} {sp : SpD} {ds : List D} {vs : List V} {n : Nat} {E : XK} (hn : ds.length = n) (hE : ∀ c od H', Wx K F Gs H R c od H' → E c od H') (ob1 : Ob K (tot G1 F) H1) (k1 : Keep (dm (tot Gs F)) H (dm (tot G1 F)) H1)
    (rs : RDs K (dm (tot G1 F)) H1 ds vs) (t : Tk sp ds G1 Q R Ps Rest Qd Rd) : toSp K n sp vs H1 (Post K F Gs H Q) E := by
  have e0 : ∀ Z : Pt, tot Z (Rest.flatten ++ F) = tot (Z ++ Rest) F := fun Z => by
    unfold tot
    rw [List.flatten_append, List.append_assoc]
  have p1 : (tot Ps (Rest.flatten ++ F)).Perm (tot G1 F) := by
    unfold tot
    rw [← List.append_assoc]
    exact t.pk.perm.append_right F
  have pd : ∀ x, x ∉ dm (tot G1 F) → x ∉ dm (tot Ps (Rest.flatten ++ F)) := fun x hx hx' => hx ((p1.map (fun c : Cell => c.1)).mem_iff.mp hx')
  have k2 : Keep (dm (tot Gs F)) H (dm (tot Ps (Rest.flatten ++ F))) H1 := k1.trans (Keep.self pd)
  refine ⟨by rw [rs.length]; exact hn, ds, Ps, Rest.flatten ++ F, Qd, Rd, RDs.perm pd _ _ rs, ob1.perm p1, t.sp, fun v H' p => ?_, fun c od H' p => ?_⟩
  · obtain ⟨d, Ps', ob', k', r, q⟩ := p
    rw [e0] at ob' r
    rw [e0 Ps'] at k'
    have p2 : Post K F Gs H (fun d G => ∃ Ps', G = Ps' ++ Rest ∧ Qd d Ps') v H' := ⟨d, Ps' ++ Rest, ob', k2.trans k', r, Ps', rfl, q⟩
    refine p2.re fun d G ⟨Ps', e, q⟩ => ?_
    subst e
    exact t.ok d Ps' q
  · obtain ⟨C, fs, Ps', ec, ob', k', x, q⟩ := p
    rw [e0] at ob' x
    rw [e0 Ps'] at k'
    exact hE c od H' ⟨C, fs, Ps' ++ Rest, ec, ob', k2.trans k', x, t.no _ _ _ q⟩
theorem callG_ {x : Str} {p : Pos} {j i n : Nat} {sp : SpD} (B : Bd X P w K mg base sc N Vs GN k) (c : Cal P w K mg base j x n sp) (hG : At GN i x) (hj : j ≤ k)
    (h : EvA X (e :: es) σd Gs (fun ds G => ds.length = n ∧ ∃ Ps Rest Qd Rd, Tk sp ds G Q R Ps Rest Qd Rd) R)
    (he : starEach (e :: es) X.env = (false, eval e X.env) :: starEach es X.env := by rfl) (hpl : (backTo pos (starEach es X.env)).any (·.1) = false := by rfl) : EvD X (.Call (.Name x p) (e :: es) [] pos) σd Gs Q R := by
  obtain ⟨f, fd, ps, Fk, hm, hk, hb⟩ := c
  obtain ⟨rfl, rfl, rfl, rfl, rfl, rfl, _, _, _, room, gd, nm, _⟩ := B
  intro pn xe E F σ H wh hE ob sl
  obtain ⟨g1, g2, g3⟩ := nm.gl i x hG.get
  refine (pe_ref (X := X.tr pn xe) semC_self g1 hm hk PA.self g2 he hpl).get ?_
  refine h.go wh hE Keep.refl ob sl fun vs H1 ds G1 ob1 k1 _ sl1 rs ⟨hn, Ps, Rest, Qd, Rd, tk⟩ => ?_
  refine sem_fn (X := X.tr pn xe) (dvs := []) Fk room hj gd hb .nil (passes_call wh.tk fun _ _ _ _ z => z) ?_
  rw [List.append_nil]
  exact run_tk hn hE ob1 k1 rs tk
theorem tk_pure {sp : SpD} {ds : List D} {G : Pt} (h : sp ds [] (fun d _ => Q d G) (fun C fs Ps' => R C fs (Ps' ++ G))) : Tk sp ds G Q R [] G (fun d _ => Q d G) (fun C fs Ps' => R C fs (Ps' ++ G)) :=
  ⟨.nil, h, fun d Ps' q => ⟨G, Sb.drop, q⟩, fun _ _ _ q => q⟩
/-- a call of a def that is about no cell of the caller's: what it makes besides is given up -/
theorem callp_ {x : Str} {p : Pos} {j i n : Nat} {sp : SpD} (B : Bd X P w K mg base sc N Vs GN k) (c : Cal P w K mg base j x n sp) (hG : At GN i x) (hj : j ≤ k)
    (h : EvA X (e :: es) σd Gs (fun ds G => ds.length = n ∧ sp ds [] (fun d _ => Q d G) (fun C fs Ps' => R C fs (Ps' ++ G))) R)
    (he : starEach (e :: es) X.env = (false, eval e X.env) :: starEach es X.env := by rfl) (hpl : (backTo pos (starEach es X.env)).any (·.1) = false := by rfl) : EvD X (.Call (.Name x p) (e :: es) [] pos) σd Gs Q R := by
  refine callG_ B c hG hj ?_ he hpl
  intro pn xe E F σ H wh hE ob sl
  exact (h pn xe E F σ H wh hE ob sl).imp fun vs H' ⟨ds, G, a1, a2, a3, hn, hs⟩ => ⟨ds, G, a1, a2, a3, hn, _, _, _, _, tk_pure hs⟩
theorem tk_spot {sp : SpD} {ds : List D} {G : Pt} {P1 : List Cell} {f : List Cell → Pt} (s : Spot G P1 f) (h : sp ds [P1] (fun d Ps' => ∃ P', Ps' = [P'] ∧ Q d (f P')) (fun _ _ _ => False)) : ∃ Ps Rest Qd Rd, Tk sp ds G Q R Ps Rest Qd Rd := by
  obtain ⟨Rest, t, pm⟩ := s.take
  refine ⟨[P1], Rest, _, _, .cons t .nil, h, fun d Ps' ⟨P', e, q⟩ => ⟨f P', fun F => .inr ?_, q⟩, fun _ _ _ z => z.elim⟩
  subst e
  unfold tot
  refine List.Perm.append_right F ?_
  rw [List.singleton_append, List.flatten_cons]
  exact (pm P').symm
/-- a call of a def that is about one part, which it leaves as one -/
theorem callb_ {x : Str} {p : Pos} {j i n : Nat} {sp : SpD} (B : Bd X P w K mg base sc N Vs GN k) (c : Cal P w K mg base j x n sp) (hG : At GN i x) (hj : j ≤ k)
    (h : EvA X (e :: es) σd Gs (fun ds G => ds.length = n ∧ ∃ P1 f, Spot G P1 f ∧ sp ds [P1] (fun d Ps' => ∃ P', Ps' = [P'] ∧ Q d (f P')) (fun _ _ _ => False)) R)
    (he : starEach (e :: es) X.env = (false, eval e X.env) :: starEach es X.env := by rfl) (hpl : (backTo pos (starEach es X.env)).any (·.1) = false := by rfl) : EvD X (.Call (.Name x p) (e :: es) [] pos) σd Gs Q R := by
  refine callG_ B c hG hj ?_ he hpl
  intro pn xe E F σ H wh hE ob sl
  exact (h pn xe E F σ H wh hE ob sl).imp fun vs H' ⟨ds, G, a1, a2, a3, hn, P1, f, s, hs⟩ => ⟨ds, G, a1, a2, a3, hn, tk_spot s hs⟩
/-- the laws' draw -/
def Drw (Q : QD) (x y : D) (G : Pt) : Prop := ∃ (p : Addr) (bx : M) (m : Int) (f : List Cell → Pt), x = .ref p ∧ y = .int m ∧ Spot G [(p, bx)] f ∧ isBox bx ∧ 0 < m ∧ ∀ r b', 0 ≤ r → r < m → isBox b' → Q (.int r) (f [(p, b')])
theorem draw_ {p : Pos} {j i : Nat} (B : Bd X P w K mg base sc N Vs GN k) (c : Cal P w K mg base j "_law_draw" 2 spDraw) (hG : At GN i ("_law_draw" : Str)) (hj : j ≤ k)
    (h : EvD X a σd Gs (fun x G1 => EvD X b σd G1 (fun y G2 => Drw Q x y G2) R) R)
    (he : starEach [a, b] X.env = (false, eval a X.env) :: starEach [b] X.env := by rfl) (he2 : starEach [b] X.env = (false, eval b X.env) :: starEach [] X.env := by rfl) (hpl : (backTo pos (starEach [b] X.env)).any (·.1) = false := by rfl) : EvD X (.Call (.Name "_law_draw" p) [a, b] [] pos) σd Gs Q R := by
  refine callb_ B c hG hj (a_cons ?_ he) he hpl
  refine EvD.imp h fun x G1 h1 => a_cons (EvD.imp h1 fun y G2 ⟨q, bx, m, f, e1, e2, s, hb, hm, hq⟩ => a_nil ⟨rfl, _, f, s, q, bx, m, by rw [e1, e2], rfl, hb, hm, fun r b' h0 h1 hb' => ⟨_, rfl, hq r b' h0 h1 hb'⟩⟩) he2
theorem drw_ {p : Addr} {bx : M} {m : Int} {G : Pt} {f : List Cell → Pt} (s : Spot G [(p, bx)] f) (hb : isBox bx) (hm : 0 < m) (h : ∀ r b', 0 ≤ r → r < m → isBox b' → Q (.int r) (f [(p, b')])) : Drw Q (.ref p) (.int m) G := ⟨p, bx, m, f, rfl, rfl, s, hb, hm, h⟩
end
end Dl
namespace Dl
open PySem PySem.Spec PyProof.Rows L2
/-- a def that changes cells of its caller's -/
def CalS (P : Program) (w : World) (K : PySem.W.Frag) (mg : Str → Option Value) (base : Heap) (j : Nat) (x : Str) (n : Nat) (sp : SpD) : Prop := Dl.Cal P w K mg base j x n sp
section
variable {X : Cx} {P : Program} {w : World} {K : PySem.W.Frag} {mg : Str → Option Value} {base : Heap} {sc : Scope} {N : List Str} {Vs : List Nat} {GN : List Str} {k : Nat}
variable {σd : Sd} {Gs : Pt} {Q : QD} {R : RX} {e : Expr} {es : List Expr} {pos : Pos}
theorem calls_ {x : Str} {p : Pos} {j i n : Nat} {sp : SpD} (B : Bd X P w K mg base sc N Vs GN k) (c : CalS P w K mg base j x n sp) (hG : At GN i x) (hj : j ≤ k)
    (h : EvA X (e :: es) σd Gs (fun ds G => ds.length = n ∧ ∃ P1 f, Spot G P1 f ∧ sp ds [P1] (fun d Ps' => ∃ P', Ps' = [P'] ∧ Q d (f P')) (fun _ _ _ => False)) R)
    (he : starEach (e :: es) X.env = (false, eval e X.env) :: starEach es X.env := by rfl) (hpl : (backTo pos (starEach es X.env)).any (·.1) = false := by rfl) : EvD X (.Call (.Name x p) (e :: es) [] pos) σd Gs Q R := callb_ B c hG hj h he hpl
end
end Dl
namespace Dl
open PySem PySem.Spec PyProof.Rows L2
section
variable {P : Program} {w : World} {K : PySem.W.Frag} {mg : Str → Option Value} {base : Heap} {N : List Str} {k : Nat} {σd : Sd} {elt c : Expr} {scb : Scope} {V' : List Nat} {GN' : List Str} {j : Nat} {d : D} {acc : List D} {G' : Pt} {A : List D → Pt → Prop} {Z : Pt → Prop}
theorem t1n_ {σ' : Sd} (hs : SetAt σd j (some d) σ') (h : ∀ Y, Bd Y P w K mg base scb N V' GN' k → EvD Y elt σ' G' (fun y G4 => acc.length < sizeLine ∧ A (acc ++ [y]) G4) R0) : T1 P w K mg base scb N V' GN' k elt [] j σd d acc G' A Z := ⟨σ', hs, h⟩
theorem t1c_ {σ' : Sd} (hs : SetAt σd j (some d) σ') (h : ∀ Y, Bd Y P w K mg base scb N V' GN' k → EvT Y c σ' G' (fun t G3 => (t = true → ∀ Z, Bd Z P w K mg base scb N V' GN' k → EvD Z elt σ' G3 (fun y G4 => acc.length < sizeLine ∧ A (acc ++ [y]) G4) R0) ∧ (t = false → Z G3)) R0) : T1 P w K mg base scb N V' GN' k elt [c] j σd d acc G' A Z := ⟨σ', hs, h⟩
end
end Dl
namespace Dl
open PySem PySem.Spec PyProof.Rows L2
/-- "".join of texts by their signs -/
theorem m_joinS {X : Cx} {Gs : Pt} {Q : QD} {α : Type} {g : α → List Nat} {l : List α} (hz : (l.map g).flatten.length ≤ 16777216) (q : Q (.str (S (l.map g).flatten)) Gs) : MetD X "str.join" (.str (Str.ofString "")) [.lst (l.map fun x => .str (S (g x)))] Gs Q := by
  have e : (l.map fun x => D.str (S (g x))) = ((l.map g).map S).map D.str := by
    rw [List.map_map, List.map_map]
    rfl
  rw [e]
  have e0 : Str.ofString "" = Str.empty := rfl
  refine m_join ls_val ?_ ?_
  · have hs : ∀ ls : List (List Nat), ((ls.map S).map (·.length)).sum = ls.flatten.length := by
      intro ls
      induction ls with
      | nil => rfl
      | cons a r ih =>
        rw [List.map_cons, List.map_cons, List.sum_cons, ih, S_len, List.flatten_cons, List.length_append]
    rw [hs, e0]
    have : Str.empty.length = 0 := rfl
    rw [this, Nat.mul_zero]
    exact hz
  · rw [e0, S_joinT]
    exact q
end Dl
namespace Dl
open PySem PySem.Spec PyProof.Rows L2

/-! ### data and their equality -/
def eqD (x y : D) : Bool := PyData.eqv (pd x) (pd y)
theorem eqD_refl {n : Nat} {x : D} (h : shN n x = true) : eqD x x = true := SeqAt.eqv_refl _ (lay_of n x h).1
/-- texts, numbers, None, tuples and lists of these -/
def dat : Nat → D → Bool
  | _, .non => true
  | _, .int _ => true
  | _, .str x => PyData.strOk x
  | n + 1, .tup ds => ds.all (dat n)
  | n + 1, .lst ds => ds.all (dat n)
  | _, _ => false
theorem all_mono {α : Type} {p q : α → Bool} : ∀ {l : List α}, (∀ x, p x = true → q x = true) → l.all p = true → l.all q = true
  | [], _, _ => rfl
  | x :: r, k, h => by
    rw [List.all_cons, Bool.and_eq_true] at h ⊢
    exact ⟨k x h.1, all_mono k h.2⟩
theorem dat_sh : ∀ (n : Nat) (d : D), dat n d = true → shN n d = true
  | _, .non, _ => by simp [shN]
  | _, .int _, _ => by simp [shN]
  | 0, .str _, h => by simpa [shN, dat] using h
  | n + 1, .str _, h => by simpa [shN, dat] using h
  | n + 1, .tup ds, h => by
    have h' : ds.all (dat n) = true := by simpa only [dat] using h
    have : ds.all (shN n) = true := all_mono (dat_sh n) h'
    simpa only [shN] using this
  | n + 1, .lst ds, h => by
    have h' : ds.all (dat n) = true := by simpa only [dat] using h
    have : ds.all (shN n) = true := all_mono (dat_sh n) h'
    simpa only [shN] using this
  | 0, .tup _, h => by simp [dat] at h
  | 0, .lst _, h => by simp [dat] at h
  | 0, .bl _, h => by simp [dat] at h
  | n + 1, .bl _, h => by simp [dat] at h
  | 0, .ref _, h => by simp [dat] at h
  | 0, .scr _, h => by simp [dat] at h
  | 0, .dct _, h => by simp [dat] at h
  | 0, .ins _ _ _, h => by simp [dat] at h
  | 0, .exc _ _ _ _, h => by simp [dat] at h
  | n + 1, .ref _, h => by simp [dat] at h
  | n + 1, .scr _, h => by simp [dat] at h
  | n + 1, .dct _, h => by simp [dat] at h
  | n + 1, .ins _ _ _, h => by simp [dat] at h
  | n + 1, .exc _ _ _ _, h => by simp [dat] at h
theorem eqv_tup {xs ys : List PyData} : PyData.eqv (.tuple xs) (.tuple ys) = PyData.eqvAll xs ys := by simp [PyData.eqv]
theorem eqv_lst {xs ys : List PyData} : PyData.eqv (.list xs) (.list ys) = PyData.eqvAll xs ys := by simp [PyData.eqv]
theorem eqAll_of {n : Nat} (ih : ∀ x y : D, dat n x = true → PyData.eqv (pd x) (pd y) = true → (∃ m, dat m y = true) → x = y) : ∀ (xs ys : List D), xs.all (dat n) = true → (∃ m, ys.all (dat m) = true) → PyData.eqvAll (pds xs) (pds ys) = true → xs = ys
  | [], [], _, _, _ => rfl
  | [], y :: ys, _, _, h => by simp [pds, PyData.eqvAll] at h
  | x :: xs, [], _, _, h => by simp [pds, PyData.eqvAll] at h
  | x :: xs, y :: ys, a, ⟨m, b⟩, h => by
    simp only [pds, PyData.eqvAll, Bool.and_eq_true] at h
    rw [List.all_cons, Bool.and_eq_true] at a b
    rw [ih x y a.1 h.1 ⟨m, b.1⟩, eqAll_of ih xs ys a.2 ⟨m, b.2⟩ h.2]
theorem eqD_of : ∀ (n : Nat) (x y : D), dat n x = true → PyData.eqv (pd x) (pd y) = true → (∃ m, dat m y = true) → x = y := by
  intro n
  induction n with
  | zero =>
    intro x y hx h hy
    obtain ⟨m, hy⟩ := hy
    cases x <;> simp only [dat, Bool.false_eq_true] at hx <;> cases m <;> cases y <;> simp_all [pd, PyData.eqv, dat]
  | succ n ih =>
    intro x y hx h hy
    obtain ⟨m, hy⟩ := hy
    cases x with
    | tup xs =>
      cases m with
      | zero => cases y <;> simp_all [pd, PyData.eqv, dat]
      | succ m =>
        cases y with
        | tup ys =>
          have e := eqAll_of ih xs ys (by simpa only [dat] using hx) ⟨m, by simpa only [dat] using hy⟩ (by simpa only [pd, eqv_tup] using h)
          rw [e]
        | _ => simp_all [pd, PyData.eqv, dat]
    | lst xs =>
      cases m with
      | zero => cases y <;> simp_all [pd, PyData.eqv, dat]
      | succ m =>
        cases y with
        | lst ys =>
          have e := eqAll_of ih xs ys (by simpa only [dat] using hx) ⟨m, by simpa only [dat] using hy⟩ (by simpa only [pd, eqv_lst] using h)
          rw [e]
        | _ => simp_all [pd, PyData.eqv, dat]
    | _ => cases m <;> cases y <;> simp_all [pd, PyData.eqv, dat]
theorem eqD_iff {n m : Nat} {x y : D} (hx : dat n x = true) (hy : dat m y = true) : eqD x y = true ↔ x = y :=
  ⟨fun h => eqD_of n x y hx h ⟨m, hy⟩, fun h => by subst h; exact eqD_refl (dat_sh n x hx)⟩
section
variable {X : Cx} {P : Program} {w : World} {K : PySem.W.Frag} {mg : Str → Option Value} {base : Heap} {sc : Scope} {N : List Str} {Vs : List Nat} {GN : List Str} {k : Nat}
variable {σd : Sd} {Gs : Pt} {Q : QD} {R : RX}
/-- x stands for the data d: the value itself, or a list of one's own -/
def IsD (K : PySem.W.Frag) (Gs : Pt) (x d : D) : Prop := PdD K Gs x (pd d)
theorem isd_val {n : Nat} {d : D} (h : shN n d = true) : IsD K Gs d d := pd_val h
theorem isd_own {n : Nat} {p : Addr} {ds : List D} (hp : Has Gs p (.lst ds)) (h : ds.all (shN n) = true) : IsD K Gs (.ref p) (.lst ds) := pd_own hp h
theorem c_eqV {n m : Nat} {x y d e : D} (B : Bd X P w K mg base sc N Vs GN k) (ix : IsD X.K Gs x d) (iy : IsD X.K Gs y e) (hx : shN n d = true) (hy : shN m e = true) (hn : n ≤ 60) (hm : m ≤ 60) (q : Q (.bl (eqD d e)) Gs) : CmpD X .Eq x y Gs Q :=
  c_eqD B ix iy (shp hx hn) (shp hy hm) q
theorem c_neV {n m : Nat} {x y d e : D} (B : Bd X P w K mg base sc N Vs GN k) (ix : IsD X.K Gs x d) (iy : IsD X.K Gs y e) (hx : shN n d = true) (hy : shN m e = true) (hn : n ≤ 60) (hm : m ≤ 60) (q : Q (.bl (!eqD d e)) Gs) : CmpD X .NotEq x y Gs Q :=
  c_neD B ix iy (shp hx hn) (shp hy hm) q
/-- equal data -/
theorem c_eqT {n : Nat} {x y d : D} (B : Bd X P w K mg base sc N Vs GN k) (ix : IsD X.K Gs x d) (iy : IsD X.K Gs y d) (hx : shN n d = true) (hn : n ≤ 60) (q : Q (.bl true) Gs) : CmpD X .Eq x y Gs Q :=
  c_eqV B ix iy hx hx hn hn (by rw [eqD_refl hx]; exact q)
theorem c_neT {n : Nat} {x y d : D} (B : Bd X P w K mg base sc N Vs GN k) (ix : IsD X.K Gs x d) (iy : IsD X.K Gs y d) (hx : shN n d = true) (hn : n ≤ 60) (q : Q (.bl false) Gs) : CmpD X .NotEq x y Gs Q :=
  c_neV B ix iy hx hx hn hn (by rw [eqD_refl hx]; exact q)
/-- two ways -/
theorem c_eqP {n m : Nat} {x y d e : D} (B : Bd X P w K mg base sc N Vs GN k) (ix : IsD X.K Gs x d) (iy : IsD X.K Gs y e) (hx : dat n d = true) (hy : dat m e = true) (hn : n ≤ 60) (hm : m ≤ 60) (q1 : d = e → Q (.bl true) Gs) (q2 : ¬ d = e → Q (.bl false) Gs) : CmpD X .Eq x y Gs Q := by
  refine c_eqV B ix iy (dat_sh _ _ hx) (dat_sh _ _ hy) hn hm ?_
  cases h : eqD d e with
  | true => exact q1 ((eqD_iff hx hy).mp h)
  | false => exact q2 fun z => by rw [(eqD_iff hx hy).mpr z] at h; cases h
theorem c_neP {n m : Nat} {x y d e : D} (B : Bd X P w K mg base sc N Vs GN k) (ix : IsD X.K Gs x d) (iy : IsD X.K Gs y e) (hx : dat n d = true) (hy : dat m e = true) (hn : n ≤ 60) (hm : m ≤ 60) (q1 : ¬ d = e → Q (.bl true) Gs) (q2 : d = e → Q (.bl false) Gs) : CmpD X .NotEq x y Gs Q := by
  refine c_neV B ix iy (dat_sh _ _ hx) (dat_sh _ _ hy) hn hm ?_
  cases h : eqD d e with
  | true => exact q2 ((eqD_iff hx hy).mp h)
  | false => exact q1 fun z => by rw [(eqD_iff hx hy).mpr z] at h; cases h
theorem dat_ints {n : Nat} (ns : List Int) : dat (n + 1) (.lst (ns.map .int)) = true := by
  simp only [dat, List.all_map]
  induction ns with
  | nil => rfl
  | cons a r ih =>
    rw [List.all_cons, ih, Bool.and_true]
    cases n <;> rfl
theorem dat_nil {n : Nat} : dat (n + 1) (.lst []) = true := by simp [dat]
theorem sh_ints {n : Nat} (ns : List Int) : (ns.map D.int).all (shN n) = true := by
  induction ns with
  | nil => rfl
  | cons a r ih =>
    rw [List.map_cons, List.all_cons, ih, Bool.and_true]
    cases n <;> rfl
theorem ix_stS {z : Str} {i : Int} {ch : Nat} (hz : z.length ≤ sizeLine) (h : atI z.cps.toList i = some ch) (q : Q (.str (S [ch])) Gs) : IxD X (.str z) (.int i) Gs Q := ix_st hz h q
theorem strOk_S {l : List Nat} (h : ∀ c ∈ l, c < 1114112) : PyData.strOk (S l) = true := by
  simpa [PyData.strOk, S, List.all_eq_true] using h
end
end Dl
namespace Dl
open PySem PySem.Spec PyProof.Rows L2
section
variable {X : Cx} {P : Program} {w : World} {K : PySem.W.Frag} {mg : Str → Option Value} {base : Heap} {sc : Scope} {N : List Str} {Vs : List Nat} {GN : List Str} {k : Nat}
variable {σd : Sd} {Gs : Pt} {Q : QD} {R : RX} {e a b c o tg iter elt : Expr} {pos p2 apos cpos : Pos}
def LcO (X : Cx) (P : Program) (w : World) (K : PySem.W.Frag) (mg : Str → Option Value) (base : Heap) (sc : Scope) (N : List Str) (k : Nat) (tg iter elt : Expr) (ifs : List Expr) (scope : Scope) (vs : List Nat) (V' : List Nat) (GN' : List Str) (ok : Dl.D → Prop) (put : Sd → Dl.D → Sd) (σd : Sd) (Gs : Pt) (Q : QD) (R : RX) : Prop :=
  ItE X tg iter σd Gs (fun ds stay G1 => ∃ I : List Dl.D → List Dl.D → Pt → Prop, I ds [] G1 ∧
      (∀ d r acc G', I (d :: r) acc G' → stay G' ∧ ok d ∧ ∀ Y, Bd Y P w K mg base (relS scope sc) N V' GN' k → IfsD Y ifs (put (wipeD σd vs) d) G' (fun t G3 =>
        (t = true → ∀ Y, Bd Y P w K mg base (relS scope sc) N V' GN' k → EvD Y elt (put (wipeD σd vs) d) G3 (fun y G4 => acc.length < sizeLine ∧ I r (acc ++ [y]) G4) R0) ∧ (t = false → I r acc G3))) ∧ (∀ acc G', I [] acc G' → stay G' ∧ ∀ p, Q (.ref p) ([(p, M.lst acc)] :: G'))) R
theorem lc_readO {ifs : List Expr} {scope : Scope} {own : List (Str × Nat)} {V' : List Nat} {GN' : List Str} {g : TG} {ok : Dl.D → Prop} {put : Sd → Dl.D → Sd} (B : Bd X P w K mg base sc N Vs GN k) (hb : blkC N sc scope own = true) (hn : blkNC scope sc N V' GN' = true)
    (T : CTg X tg scope (own.map (·.2)) g ok put)
    (h : LcO X P w K mg base sc N k tg iter elt ifs scope (own.map (·.2)) V' GN' ok put σd Gs Q R) {pn : List (Addr × Obj)} {xe : Value → Shared → Prop} {E : XK} {F : List Cell} {σ : L2.St} {H : Hp} (wh : Wh X pn xe E) (hE : ∀ c od H', Wx X.K F Gs H R c od H' → E c od H') (ob : Ob X.K (tot Gs F) H) (sl : Sl X.K (dm (tot Gs F)) H σd σ) :
    tLc (semPI (X.tr pn xe) tg iter) g (lcT X scope ifs) (lcE X scope elt) (own.map (·.2)) σ H (Post X.K F Gs H Q) := by
  refine semPI_imp (h pn xe E F σ H wh hE ob sl) fun J H1 ⟨ds, stay, G1, ob1, k1, jd, I, i0, turn, done⟩ p hp => ?_
  have obN : Ob X.K (tot ([(p, M.lst [])] :: G1) F) (L2.upd H1 p (.lst [])) := ob1.new (m := .lst []) hp ⟨[], rfl, rfl⟩
  have kN : Keep (dm (tot G1 F)) H1 (dm (tot G1 ([(p, M.lst [])] ++ F))) (L2.upd H1 p (.lst [])) := (Keep.newO (N := dm (tot G1 F)) hp).trans (Keep.self fun x hx => mt_shift (G := G1) (F := F) (c := (p, M.lst [])) hx)
  refine ⟨fun i m H' => m = ds.length - i ∧ i ≤ ds.length ∧ ∃ acc G', Ob X.K (tot G' ([(p, M.lst acc)] ++ F)) H' ∧ Keep (dm (tot G1 F)) H1 (dm (tot G' ([(p, M.lst acc)] ++ F))) H' ∧ I (ds.drop i) acc G', ⟨_, rfl, Nat.zero_le _, [], G1, obN.down, kN, i0⟩, ?_⟩
  rintro i m H' ⟨rfl, hi, acc, G', ob', k', hI⟩
  by_cases hlt : i < ds.length
  · have hd : ds[i]? = some ds[i] := List.getElem?_eq_getElem hlt
    rw [drop_cons hd] at hI
    obtain ⟨st, okd, ht⟩ := turn _ _ _ _ hI
    obtain ⟨hgo, hy⟩ := (jd i G' H' [(p, M.lst acc)] ob' k' st).1 _ hd
    refine .inr ⟨hgo, fun H2 => ∃ acc2 G2, Ob X.K (tot G2 ([(p, M.lst acc2)] ++ F)) H2 ∧ Keep (dm (tot G1 F)) H1 (dm (tot G2 ([(p, M.lst acc2)] ++ F))) H2 ∧ I (ds.drop (i + 1)) acc2 G2, fun H2 ⟨acc2, G2, a1, a2, a3⟩ => ⟨_, by omega, rfl, hlt, acc2, G2, a1, a2, a3⟩, fun x Hx y => ?_⟩
    obtain ⟨obx, kx, rx⟩ := hy x Hx y
    have slx : Sl X.K (dm (tot G' ([(p, M.lst acc)] ++ F))) Hx (wipeD σd (own.map (·.2))) (L2.wipe σ (own.map (·.2))) := (sl.keep ((k1.trans k').trans kx)).wipe _
    refine T.go _ _ _ _ _ _ rx okd slx _ fun σ2 sl2 hw => ⟨hw, fun s H0 C cl fp pins s1 I1 => ?_⟩
    have go := ht _ (bd_blk B hn s H0 C cl fp)
    -- the end of a turn
    have elm : ∀ {H3 : Hp} {G3 : Pt}, Ob X.K (tot G3 ([(p, M.lst acc)] ++ F)) H3 → Keep (dm (tot G1 F)) H1 (dm (tot G3 ([(p, M.lst acc)] ++ F))) H3 → Sl X.K (dm (tot G3 ([(p, M.lst acc)] ++ F))) H3 (put (wipeD σd (own.map (·.2))) ds[i]) σ2 →
        (∀ Y, Bd Y P w K mg base (relS scope sc) N V' GN' k → EvD Y elt (put (wipeD σd (own.map (·.2))) ds[i]) G3 (fun y G4 => acc.length < sizeLine ∧ I (ds.drop (i + 1)) (acc ++ [y]) G4) R0) →
        ∀ (s : Shared) (H0 : Hp) (C : Addr) (cl : List (Str × Addr)) (fp : List Addr), sem (X.blk s H0 scope (compEnvC scope cl C X.env) fp) elt σ2 H3 (fun y H4 => ∃ acc', H4 p = some (.lst acc') ∧ acc'.length < sizeLine ∧
          ∃ acc2 G2, Ob X.K (tot G2 ([(p, M.lst acc2)] ++ F)) (L2.upd H4 p (.lst (acc' ++ [y]))) ∧ Keep (dm (tot G1 F)) H1 (dm (tot G2 ([(p, M.lst acc2)] ++ F))) (L2.upd H4 p (.lst (acc' ++ [y]))) ∧ I (ds.drop (i + 1)) acc2 G2) := by
      intro H3 G3 ob3 k3 sl3 hel s H0 C cl fp
      refine EvD.go (X := X.blk s H0 scope (compEnvC scope cl C X.env) fp) (pn := []) (xe := fun _ _ => False) (hel _ (bd_blk B hn s H0 C cl fp)) wh_blk (fun c od H' w => ?_) Keep.refl ob3 sl3 fun y H4 d G4 ob4 _ k4 _ r4 ⟨hz, q⟩ => ?_
      · obtain ⟨_, _, _, _, _, _, _, z⟩ := w
        exact z.elim
      · obtain ⟨o, e4, vs, rfl, rv⟩ := ob4.up.get (.here .here)
        refine ⟨vs, e4, by rw [rv.length]; exact hz, acc ++ [d], G4, ?_, ?_, q⟩
        · have u : Upd ([(p, M.lst acc)] :: G4) p (.lst acc) (.lst (acc ++ [d])) ([(p, M.lst (acc ++ [d]))] :: G4) := .here .here
          have r4' : RD X.K (dm (tot ([(p, M.lst acc)] :: G4) F)) H4 d y := RD.perm (fun x hx => mt_unshift hx) _ _ r4
          exact (ob4.up.upd u (m' := .lst (acc ++ [d])) ⟨_, rfl, rv.append (RDs.one r4')⟩).down
        · have u : Upd ([(p, M.lst acc)] :: G4) p (.lst acc) (.lst (acc ++ [d])) ([(p, M.lst (acc ++ [d]))] :: G4) := .here .here
          have s1 : Keep (dm (tot G4 ([(p, M.lst acc)] ++ F))) H4 (dm (tot ([(p, M.lst acc)] :: G4) F)) H4 := Keep.self fun x hx => mt_unshift hx
          have s2 : Keep (dm (tot ([(p, M.lst acc)] :: G4) F)) H4 (dm (tot ([(p, M.lst (acc ++ [d]))] :: G4) F)) (L2.upd H4 p (.lst (vs ++ [y]))) := Keep.updD u
          have s3 : Keep (dm (tot ([(p, M.lst (acc ++ [d]))] :: G4) F)) (L2.upd H4 p (.lst (vs ++ [y]))) (dm (tot G4 ([(p, M.lst (acc ++ [d]))] ++ F))) (L2.upd H4 p (.lst (vs ++ [y]))) := Keep.self fun x hx => mt_shift hx
          exact (((k3.trans k4).trans s1).trans s2).trans s3
    match ifs, go, ht with
    | [], go, ht =>
      refine ⟨tYes, pts_nil, ?_⟩
      unfold tYes
      dsimp only
      rw [if_pos rfl]
      exact elm obx (k'.trans kx) sl2 (go.1 rfl)
    | [c], go, ht =>
      refine ⟨semT (X.blk s H0 scope (compEnvC scope cl C X.env) fp) c, pts_one PT.self, ?_⟩
      refine EvT.go (X := X.blk s H0 scope (compEnvC scope cl C X.env) fp) (pn := []) (xe := fun _ _ => False) go wh_blk (fun c od H' w => ?_) Keep.refl obx sl2 fun t H3 G3 ob3 _ k3 sl3 q => ?_
      · obtain ⟨_, _, _, _, _, _, _, z⟩ := w
        exact z.elim
      · cases t with
        | true =>
          rw [if_pos rfl]
          exact elm ob3 ((k'.trans kx).trans k3) sl3 (q.1 rfl)
        | false =>
          rw [if_neg Bool.false_ne_true]
          exact ⟨acc, G3, ob3, (k'.trans kx).trans k3, q.2 rfl⟩
    | _ :: _ :: _, go, ht => exact go.elim
  · have hd : ds[i]? = none := List.getElem?_eq_none_iff.mpr (by omega)
    have e : ds.drop i = [] := List.drop_eq_nil_of_le (by omega)
    rw [e] at hI
    obtain ⟨st, q⟩ := done _ _ hI
    refine .inl ⟨(jd i G' H' [(p, M.lst acc)] ob' k' st).2 hd, .ref p, [(p, M.lst acc)] :: G', ob'.up, ?_, rfl, q p⟩
    exact (k1.trans k').trans (Keep.self fun x hx => mt_unshift hx)
/-- [elt for tg in iter if ..] -/
theorem e_lcO {ifs : List Expr} {scope : Scope} {own : List (Str × Nat)} {V' : List Nat} {GN' : List Str} {g : TG} {ok : Dl.D → Prop} {put : Sd → Dl.D → Sd} (B : Bd X P w K mg base sc N Vs GN k) (hb : blkC N sc scope own = true) (hn : blkNC scope sc N V' GN' = true)
    (T : CTg X tg scope (own.map (·.2)) g ok put) (h : LcO X P w K mg base sc N k tg iter elt ifs scope (own.map (·.2)) V' GN' ok put σd Gs Q R)
    (hs : ∀ x, foldedSetIterable iter X.env x = pure x := by intro _; rfl) : EvD X (.ListComp elt [⟨tg, iter, ifs, 0⟩] scope pos) σd Gs Q R := by
  intro pn xe E F σ H wh hE ob sl
  obtain ⟨bok, nd'⟩ := lc_ok B hb pn xe
  exact (pe_lc (X := X.tr pn xe) (own := own) B.calm nd' PI.self bok T.pg lcT_pts lcE_pe hs).get (lc_readO B hb hn T h wh hE ob sl)
/-- name = [..] -/
theorem s_lcO {ifs : List Expr} {scope : Scope} {own : List (Str × Nat)} {V' : List Nat} {GN' : List Str} {g : TG} {ok : Dl.D → Prop} {put : Sd → Dl.D → Sd} {D : DE} {i : Nat} {y : Str} {py spos : Pos} (B : Bd X P w K mg base sc N Vs GN k) (hN : N[i]? = some y) (hyl : sc.names.lookup y = some .local) (hk : sc.kind = .function)
    (hl : (py.line == pos.line) = true) (hsw : (scope.names.any fun (n, k) => n == y && (k == .local || k == .cell)) = false) (hb : blkC N sc scope own = true) (hn : blkNC scope sc N V' GN' = true)
    (T : CTg X tg scope (own.map (·.2)) g ok put) (h : LcO X P w K mg base sc N k tg iter elt ifs scope (own.map (·.2)) V' GN' ok put σd Gs (fun d G => D.nx (σd.set i (some d)) G) D.ex)
    (hs : ∀ x, foldedSetIterable iter X.env x = pure x := by intro _; rfl) : StD X (.Assign [.Name y py] (.ListComp elt [⟨tg, iter, ifs, 0⟩] scope pos) spos) σd Gs D := by
  intro pn xe E F σ H wh hE ob sl
  obtain ⟨bok, nd'⟩ := lc_ok B hb pn xe
  have e2 : (X.tr pn xe).env.scope = sc := B.eS
  have hy' : (X.tr pn xe).env.scope.names.lookup y = some .local := by rw [e2]; exact hyl
  refine (ps_setLc (X := X.tr pn xe) (own := own) (i := i) B.calm nd' (by rw [show (X.tr pn xe).N = N from B.eN]; exact hN) hy' (sw_true (by rw [e2]; exact hk) hy' hl hsw) PI.self bok T.pg lcT_pts lcE_pe hs).get ?_
  exact tLc_imp (lc_readO B hb hn T h wh hE ob sl) fun v H' ⟨d, G', ob', k', r, q⟩ => ⟨_, G', ob', k', (sl.keep k').set r i, q⟩
/-! ### .. by the number of turns, one name -/
theorem lcO_of {x : Str} {px : Pos} {scope : Scope} {V' : List Nat} {GN' : List Str} {ifs : List Expr} {j : Nat}
    (h : ItE X (.Name x px) iter σd Gs (fun ds stay G1 => ∃ J : Nat → List D → Pt → Prop, J 0 [] G1 ∧ (∀ i d acc G', ds[i]? = some d → J i acc G' → stay G' ∧ T1 P w K mg base (relS scope sc) N V' GN' k elt ifs j σd d acc G' (J (i + 1)) (J (i + 1) acc)) ∧ (∀ acc G', J ds.length acc G' → stay G' ∧ ∀ p, Q (.ref p) ([(p, M.lst acc)] :: G'))) R) :
    LcO X P w K mg base sc N k (.Name x px) iter elt ifs scope [j] V' GN' (fun _ => True) (fun σ d => σ.set j (some d)) σd Gs Q R := by
  have h2 := lcI_of (Q := fun d G' => ∃ acc, d = .lst acc ∧ ∀ p, Q (.ref p) ([(p, M.lst acc)] :: G')) (elt := elt) (scope := scope) (V' := V') (GN' := GN') (ifs := ifs) (j := j) (X := X) (P := P) (w := w) (K := K) (mg := mg) (base := base) (sc := sc) (N := N) (k := k) (iter := iter) (σd := σd) (Gs := Gs) (R := R) (x := x) (px := px)
    (by
      intro pn xe E F σ H wh hE ob sl
      exact semPI_imp (h pn xe E F σ H wh hE ob sl) fun Jt H1 ⟨ds, stay, G1, a1, a2, a3, J, j0, turn, done⟩ => ⟨ds, stay, G1, a1, a2, a3, J, j0, turn, fun acc G' hJ => ⟨(done acc G' hJ).1, acc, rfl, (done acc G' hJ).2⟩⟩)
  intro pn xe E F σ H wh hE ob sl
  exact semPI_imp (h2 pn xe E F σ H wh hE ob sl) fun Jt H1 ⟨ds, stay, G1, a1, a2, a3, I, i0, turn, done⟩ => ⟨ds, stay, G1, a1, a2, a3, I, i0, turn, fun acc G' hI => by
    obtain ⟨s1, acc', e, q⟩ := done acc G' hI
    cases e
    exact ⟨s1, q⟩⟩
theorem lcO_ {x : Str} {px : Pos} {scope : Scope} {ifs : List Expr} {j : Nat} (own : List (Str × Nat)) (V' : List Nat) (GN' : List Str) (hown : own = [(x, j)]) (B : Bd X P w K mg base sc N Vs GN k) (hN : At N j x) (hV : V'[j]? = some 2) (hb : blkC N sc scope own = true) (hn : blkNC scope sc N V' GN' = true)
    (h : ItE X (.Name x px) iter σd Gs (fun ds stay G1 => ∃ J : Nat → List D → Pt → Prop, J 0 [] G1 ∧ (∀ i d acc G', ds[i]? = some d → J i acc G' → stay G' ∧ T1 P w K mg base (relS scope sc) N V' GN' k elt ifs j σd d acc G' (J (i + 1)) (J (i + 1) acc)) ∧ (∀ acc G', J ds.length acc G' → stay G' ∧ ∀ p, Q (.ref p) ([(p, M.lst acc)] :: G'))) R)
    (hs : ∀ x, foldedSetIterable iter X.env x = pure x := by intro _; rfl) : EvD X (.ListComp elt [⟨.Name x px, iter, ifs, 0⟩] scope pos) σd Gs Q R := by
  subst hown
  exact e_lcO B hb hn (ctg_name B hn hN.get hV (List.mem_singleton.mpr rfl)) (lcO_of h) hs
theorem slcO1_ {nx bk ct : Sd → Pt → Prop} {rt : QD} {ex : RX} {x y : Str} {px py spos : Pos} {scope : Scope} {ifs : List Expr} {i j : Nat} (own : List (Str × Nat)) (V' : List Nat) (GN' : List Str) (hown : own = [(x, j)]) (B : Bd X P w K mg base sc N Vs GN k) (hNy : At N i y) (hN : At N j x) (hV : V'[j]? = some 2) (hyl : sc.names.lookup y = some .local) (hk : sc.kind = .function)
    (hl : (py.line == pos.line) = true) (hsw : (scope.names.any fun (n, k) => n == y && (k == .local || k == .cell)) = false) (hb : blkC N sc scope own = true) (hn : blkNC scope sc N V' GN' = true)
    (h : ItE X (.Name x px) iter σd Gs (fun ds stay G1 => ∃ J : Nat → List D → Pt → Prop, J 0 [] G1 ∧ (∀ i d acc G', ds[i]? = some d → J i acc G' → stay G' ∧ T1 P w K mg base (relS scope sc) N V' GN' k elt ifs j σd d acc G' (J (i + 1)) (J (i + 1) acc)) ∧ (∀ acc G', J ds.length acc G' → stay G' ∧ ∀ p, ∃ σ', SetAt σd i (some (.ref p)) σ' ∧ nx σ' ([(p, M.lst acc)] :: G'))) ex)
    (hs : ∀ x, foldedSetIterable iter X.env x = pure x := by intro _; rfl) : StD X (.Assign [.Name y py] (.ListComp elt [⟨.Name x px, iter, ifs, 0⟩] scope pos) spos) σd Gs ⟨nx, rt, bk, ct, ex⟩ := by
  subst hown
  refine s_lcO (D := ⟨nx, rt, bk, ct, ex⟩) B hNy.get hyl hk hl hsw hb hn (ctg_name B hn hN.get hV (List.mem_singleton.mpr rfl)) (lcO_of ?_) hs
  intro pn xe E F σ H wh hE ob sl
  refine semPI_imp (h pn xe E F σ H wh hE ob sl) fun Jt H1 ⟨ds, stay, G1, a1, a2, a3, J, j0, turn, done⟩ => ⟨ds, stay, G1, a1, a2, a3, J, j0, turn, fun acc G' hJ => ⟨(done acc G' hJ).1, fun p => ?_⟩⟩
  obtain ⟨σ', h1, h2⟩ := (done acc G' hJ).2 p
  have e := h1.eq
  subst e
  exact h2
end
end Dl
namespace Dl
open PySem PySem.Spec PyProof.Rows L2
/-- a def that makes cells for its caller -/
def CalN (P : Program) (w : World) (K : PySem.W.Frag) (mg : Str → Option Value) (base : Heap) (j : Nat) (x : Str) (n : Nat) (sp : SpD) : Prop := Dl.Cal P w K mg base j x n sp
section
variable {X : Cx} {P : Program} {w : World} {K : PySem.W.Frag} {mg : Str → Option Value} {base : Heap} {sc : Scope} {N : List Str} {Vs : List Nat} {GN : List Str} {k : Nat}
variable {σd : Sd} {Gs : Pt} {Q : QD} {R : RX} {e a b c o tg iter elt : Expr} {es : List Expr} {pos p2 apos cpos : Pos} {sts : List Stmt}
variable {nx bk ct : Sd → Pt → Prop} {rt : QD} {ex : RX}
theorem tk_new {sp : SpD} {ds : List D} {G : Pt} (h : sp ds [] (fun d Ps' => ∃ P1, Ps' = [P1] ∧ Q d (P1 :: G)) (fun _ _ _ => False)) : ∃ Ps Rest Qd Rd, Tk sp ds G Q R Ps Rest Qd Rd :=
  ⟨[], G, _, _, .nil, h, fun d Ps' ⟨P1, e, q⟩ => ⟨P1 :: G, by subst e; exact Sb.refl, q⟩, fun _ _ _ z => z.elim⟩
theorem calln_ {x : Str} {p : Pos} {j i n : Nat} {sp : SpD} (B : Bd X P w K mg base sc N Vs GN k) (c : CalN P w K mg base j x n sp) (hG : At GN i x) (hj : j ≤ k)
    (h : EvA X (e :: es) σd Gs (fun ds G => ds.length = n ∧ sp ds [] (fun d Ps' => ∃ P1, Ps' = [P1] ∧ Q d (P1 :: G)) (fun _ _ _ => False)) R)
    (he : starEach (e :: es) X.env = (false, eval e X.env) :: starEach es X.env := by rfl) (hpl : (backTo pos (starEach es X.env)).any (·.1) = false := by rfl) : EvD X (.Call (.Name x p) (e :: es) [] pos) σd Gs Q R := by
  refine callG_ B c hG hj ?_ he hpl
  intro pn xe E F σ H wh hE ob sl
  exact (h pn xe E F σ H wh hE ob sl).imp fun vs H' ⟨ds, G, a1, a2, a3, hn, hs⟩ => ⟨ds, G, a1, a2, a3, hn, tk_new hs⟩
/-- cells in another order, some given up -/
theorem sre_ {Gs' : Pt} (p : Sb Gs' Gs) (h : SsD X sts σd Gs' ⟨nx, rt, bk, ct, ex⟩) : SsD X sts σd Gs ⟨nx, rt, bk, ct, ex⟩ := ss_re p h
theorem Sb.sub {G G' : Pt} (h : G'.flatten.Sublist G.flatten) : Sb G' G := fun F => .inl (h.append_right F)
theorem Sb.per {G G' : Pt} (h : G'.flatten.Perm G.flatten) : Sb G' G := fun F => .inr (h.append_right F)
theorem b_catM {α : Type} {f : α → D} {l m : List α} (hz : l.length + m.length ≤ sizeLine) (q : Q (.lst ((l ++ m).map f)) Gs) : BinD X .Add (.lst (l.map f)) (.lst (m.map f)) Gs Q :=
  b_cat ls_val ls_val (by rw [List.length_map, List.length_map]; exact hz) (by rw [← List.map_append]; exact q)
theorem b_catMO {α : Type} {f : α → D} {l m : List α} (hz : l.length + m.length ≤ sizeLine) (q : ∀ p, Q (.ref p) ([(p, .lst ((l ++ m).map f))] :: Gs)) : BinD X .Add (.lst (l.map f)) (.lst (m.map f)) Gs Q :=
  b_catO ls_val ls_val (by rw [List.length_map, List.length_map]; exact hz) (fun p => by rw [← List.map_append]; exact q p)
theorem b_rep1 {d : D} {n : Int} (h1 : 0 ≤ n) (h2 : n ≤ 100000) (q : Q (.lst (List.replicate n.toNat d)) Gs) : BinD X .Mult (.lst [d]) (.int n) Gs Q := by
  refine b_rep (ds := [d]) ls_val (by omega) (by omega) (by rw [sizeLine_eq, List.length_singleton]; omega) ?_
  have : (List.replicate n.toNat [d]).flatten = List.replicate n.toNat d := by
    generalize n.toNat = m
    induction m with
    | zero => rfl
    | succ m ih => rw [List.replicate_succ, List.flatten_cons, ih, List.replicate_succ]; rfl
  rw [this]
  exact q
theorem b_repI {v n : Int} (h1 : 0 ≤ n) (h2 : n ≤ 100000) (q : Q (.lst ((List.replicate n.toNat v).map .int)) Gs) : BinD X .Mult (.lst [.int v]) (.int n) Gs Q :=
  b_rep1 h1 h2 (by rw [← List.map_replicate]; exact q)
theorem set_om {α : Type} {f : α → D} {l : List α} {x : α} {p : Addr} {i : Int} {Gs' : Pt} {Z : Pt → Prop} (u : Upd Gs p (.lst (l.map f)) (.lst ((l.set i.toNat x).map f)) Gs') (h0 : 0 ≤ i) (h1 : i < (l.length : Int)) (q : Z Gs') : SetD X (.ref p) (.int i) (f x) Gs Z := by
  rw [List.map_set] at u
  exact set_own u (ixN_in h0 (by rw [List.length_map]; exact h1)) q
theorem k_listM {α : Type} {f : α → D} {x : D} {l : List α} (hx : LsD X.K Gs x (l.map f)) (q : Q (.lst (l.map f)) Gs) : CalD X (.type "list") [x] Gs Q := k_listL hx q
theorem one_map (v : Int) : [D.int v] = [v].map D.int := rfl
end
end Dl
namespace Dl
open PySem PySem.Spec PyProof.Rows L2
theorem repS_S (ch : Nat) (n : Int) : repS (S [ch]) n = S (List.replicate n.toNat ch) := by
  unfold repS
  have fl : ∀ (m : Nat) (b : Array Nat), (List.replicate m (S [ch]).cps).foldl (· ++ ·) b = b ++ (List.replicate m ch).toArray := by
    intro m
    induction m with
    | zero => intro b; simp
    | succ m ih =>
      intro b
      rw [List.replicate_succ, List.foldl_cons, ih, List.replicate_succ]
      apply Array.ext'
      show ((b ++ [ch].toArray) ++ (List.replicate m ch).toArray).toList = _
      simp
  rw [fl]
  simp [S]
section
variable {X : Cx} {Gs : Pt} {Q : QD}
theorem b_catG {α : Type} {f : α → D} {l m : List α} {x y : D} (hx : LsD X.K Gs x (l.map f)) (hy : LsD X.K Gs y (m.map f)) (hz : l.length + m.length ≤ sizeLine) (q : Q (.lst ((l ++ m).map f)) Gs) : BinD X .Add x y Gs Q :=
  b_cat hx hy (by rw [List.length_map, List.length_map]; exact hz) (by rw [← List.map_append]; exact q)
theorem b_catGO {α : Type} {f : α → D} {l m : List α} {x y : D} (hx : LsD X.K Gs x (l.map f)) (hy : LsD X.K Gs y (m.map f)) (hz : l.length + m.length ≤ sizeLine) (q : ∀ p, Q (.ref p) ([(p, .lst ((l ++ m).map f))] :: Gs)) : BinD X .Add x y Gs Q :=
  b_catO hx hy (by rw [List.length_map, List.length_map]; exact hz) (fun p => by rw [← List.map_append]; exact q p)
theorem b_repSS {ch : Nat} {n : Int} (h0 : 0 ≤ n) (h2 : n ≤ 100000) (q : Q (.str (S (List.replicate n.toNat ch))) Gs) : BinD X .Mult (.str (S [ch])) (.int n) Gs Q :=
  b_repS (by omega) (by omega) (by rw [S_len, sizeLine_eq, List.length_singleton]; omega) (by rw [repS_S]; exact q)
end
end Dl
namespace Dl
open PySem PySem.Spec PyProof.Rows L2
theorem k_ordS {X : Cx} {Gs : Pt} {Q : QD} {c : Nat} (q : Q (.int (c : Int)) Gs) : CalD X (.builtin "ord") [.str (S [c])] Gs Q := k_ord rfl q
end Dl
namespace Dl
open PySem PySem.Spec PyProof.Rows L2

/-! ### raise -/
section
variable {X : Cx} {P : Program} {w : World} {K : PySem.W.Frag} {mg : Str → Option Value} {base : Heap} {sc : Scope} {N : List Str} {Vs : List Nat} {GN : List Str} {k : Nat}
variable {σd : Sd} {Gs : Pt} {Q : QD} {R : RX} {e a b c o tg iter elt : Expr} {es : List Expr} {pos p2 apos cpos : Pos} {sts : List Stmt}
variable {nx bk ct : Sd → Pt → Prop} {rt : QD} {ex : RX}
/-- an own class of exceptions without own __init__ -/
structure XcT (K : PySem.W.Frag) (mg : Str → Option Value) (x : Str) (C : Addr) : Prop where
  gC : mg x = some (.ref C)
  ex : PySem.W.excIn K C [.type "ValueError", .type "Exception", .type "BaseException", .type "object"] "ValueError.__new__" = true
  kC : PySem.W.keepIn K (.ref C) = true
  sb : PySem.W.subIn K (.ref C) (.type "BaseException") = some true
  ty : PySem.W.typeIn K (.ref C) = some (.type "type")
theorem sraiseT_ {x : Str} {m : String} {C : Addr} {j jj : Nat} {p q2 pos' : Pos} (B : Bd X P w K mg base sc N Vs GN k) (T : XcT K mg x C) (hG : At GN j x) (q : ex C [] Gs) :
    StD X (.Raise (some (.Call (.Name x p) [.Constant (.str m) jj q2] [] pos)) none pos') σd Gs ⟨nx, rt, bk, ct, ex⟩ := by
  obtain ⟨rfl, rfl, rfl, rfl, rfl, rfl, _, _, calm, _, _, nm, _⟩ := B
  intro pn xe E F σ H wh hE ob sl
  obtain ⟨g1, g2, _⟩ := nm.gl j x hG.get
  exact (ps_raise (X := X.tr pn xe) calm wh.tk (pmk_own PySem.F.excBase_ValueError T.ex T.gC T.kC (raises_own T.sb T.ty) g1 g2)).get (hE _ _ _ ⟨C, [], Gs, rfl, ob, Keep.refl, .inl ⟨rfl, rfl⟩, q⟩)
/-- def __init__(self, f): self.f = f -/
def spEx (K : PySem.W.Frag) (f : Str) : L2.Sp := fun vs H Q _ => ∃ (a C : Addr) (v : V), vs = [.ref a, v] ∧ OexC K C ∧ PySem.W.findIn K (.ref C) f = some none ∧ H a = some (exo a C none) ∧ ∀ dx, H dx = none → dx ≠ a → Q .non (L2.upd (L2.upd H dx (exd dx [(f, v)])) a (exo a C (some dx)))
theorem fn_ex {qual fx sx nm : Str} {st : Stmt} {f : Addr} {fd : FuncData} {p1 p2 p3 p4 : Pos} (F : Fun K "__init__" qual st f fd) (S : FnScope [sx, nm] [sx, nm] (defScope st)) (hb : defBody st = [.Assign [.Attribute (.Name sx p1) fx p2] (.Name nm p3) p4])
    (v0 : Vis (defScope st) sx) (v1 : Vis (defScope st) nm) (d0 : (sx == ("__debug__" : Str)) = false) (c0 : (sx == ("__classdict__" : Str)) = false) (d1 : (nm == ("__debug__" : Str)) = false) (c1 : (nm == ("__classdict__" : Str)) = false) : FnOk P w K mg base (L2.CX P w) 1 f fd [sx, nm] (spEx K fx) := by
  refine F.okX S (fun vs H Q E ⟨a, C, v, e, _⟩ => by rw [e]; rfl) fun cdv A outer s H vs Q E hr ⟨a, C, v, e, T, hno, ha, q⟩ => ?_
  subst e
  rw [hb]
  refine ⟨_, pss_cons (ps_ost (pe_var (i := 0) rfl v0 d0 c0) (pe_var (i := 1) rfl v1 d1 c1)) pss_nil, ?_⟩
  exact ⟨v, rfl, .ref a, rfl, a, C, rfl, T, hno, .inl ⟨ha, fun dx h1 h2 => q dx h1 h2⟩⟩
/-- an own class of exceptions whose __init__ stores its argument -/
structure XcI (P : Program) (w : World) (K : PySem.W.Frag) (mg : Str → Option Value) (base : Heap) (x f : Str) (C : Addr) : Prop where
  gC : mg x = some (.ref C)
  ox : OexC K C
  no : PySem.W.findIn K (.ref C) f = some none
  fn : ∃ fI fd ps, PySem.W.findIn K (.ref C) "__init__" = some (some (.ref fI)) ∧ PySem.W.typeIn K (.ref fI) = some (.type "function") ∧ FnOk P w K mg base (L2.CX P w) 1 fI fd ps (spEx K f) ∧ Binds K fd ps []
theorem sraiseI_ {x f : Str} {C : Addr} {j : Nat} {p pos' : Pos} (B : Bd X P w K mg base sc N Vs GN (k + 2)) (T : XcI P w K mg base x f C) (hG : At GN j x) (h : EvD X e σd Gs (fun d G => ex C [(f, d)] G) ex)
    (he : starEach [e] X.env = (false, eval e X.env) :: starEach [] X.env := by rfl) : StD X (.Raise (some (.Call (.Name x p) [e] [] pos)) none pos') σd Gs ⟨nx, rt, bk, ct, ex⟩ := by
  obtain ⟨rfl, rfl, rfl, rfl, rfl, rfl, _, _, calm, room, _, nm, _⟩ := B
  intro pn xe E F σ H wh hE ob sl
  obtain ⟨g1, g2, _⟩ := nm.gl j x hG.get
  obtain ⟨fI, fd, ps, iC, tI, Fk, hb⟩ := T.fn
  refine (ps_raise (X := X.tr pn xe) calm wh.tk (pmk_oex (X := X.tr pn xe) T.ox iC tI Fk (room.mono (by omega)) hb .nil passL g1 T.gC (pa_cons PE.self pa_nil he) g2 he rfl)).get ?_
  refine h.go wh hE Keep.refl ob sl fun v H1 d G1 ob1 k1 _ sl1 r q => ⟨by show 1 ≤ 1000; decide, fun a ha => ?_⟩
  refine ⟨a, C, v, rfl, T.ox, T.no, upd_same, fun dx hd ne => ⟨rfl, dx, [(f, v)], upd_same, ?_, ?_, ?_⟩⟩
  · rw [upd_ne ne, upd_same]
  · rw [upd_ne ne] at hd
    exact hd
  · have hd' : H1 dx = none := by
      rw [upd_ne ne] at hd
      exact hd
    have eh : L2.upd (del (L2.upd (L2.upd (L2.upd H1 a (exo a C none)) dx (exd dx [(f, v)])) a (exo a C (some dx))) a) dx (.xd [(f, v)]) = L2.upd H1 dx (.xd [(f, v)]) := by
      funext b
      by_cases hb : b = dx
      · rw [hb, upd_same, upd_same]
      · rw [upd_ne hb, upd_ne hb]
        by_cases hba : b = a
        · rw [hba, del_same, ha]
        · rw [del_ne hba, upd_ne hba, upd_ne hb, upd_ne hba]
    rw [eh]
    exact hE _ _ _ ⟨C, [(f, d)], G1, rfl, ob1.newF hd', k1.trans (Keep.newF hd'), .inr ⟨dx, [v], List.cons_ne_nil _ _, rfl, ob1.mem_none hd', upd_same, RDs.one (RD.keep (Keep.newF hd') _ _ r)⟩, q⟩

/-! ### try -/
/-- a suite, run where the exception at a (class C, fields fs) is handled -/
def SuD (X : Cx) (a C : Addr) (fs : List (Str × Dl.D)) (st : List Stmt) (σd : Sd) (Gs : Pt) (D : DE) : Prop := ∀ oe od pn F σ H, Zc (.ref C) od oe → (∃ vs, oe.data = .fields vs) → XR X.K (dm (tot Gs F)) H od fs → Ob X.K (tot Gs F) H → Sl X.K (dm (tot Gs F)) H σd σ →
  semB (X.suite a ((a, oe) :: pn)) st (EndsOf X.K F Gs H D) σ H
def EvH (X : Cx) (a C : Addr) (fs : List (Str × Dl.D)) (e : Expr) (σd : Sd) (Gs : Pt) (Q : QD) : Prop := ∀ oe od pn F σ H, Zc (.ref C) od oe → (∃ vs, oe.data = .fields vs) → XR X.K (dm (tot Gs F)) H od fs → Ob X.K (tot Gs F) H → Sl X.K (dm (tot Gs F)) H σd σ →
  sem (X.suite a ((a, oe) :: pn)) e σ H (Post X.K F Gs H Q)
theorem XR.keep {N' N1 : List Addr} {H H1 : Hp} {od : Option Addr} {fs : List (Str × Dl.D)} (k : Keep N1 H N' H1) (h : XR K N1 H od fs) : XR K N' H1 od fs := by
  rcases h with h | ⟨d, vs, z0, e, n, t, r⟩
  · exact .inl h
  · exact .inr ⟨d, vs, z0, e, (k d _ t n).2, (k d _ t n).1, RDs.keep k _ _ r⟩
/-- an expression that does not look at it -/
theorem eh_of {a : Addr} {C : Addr} {fs : List (Str × Dl.D)} (h : EvD (X.suite a []) e σd Gs Q R0) : EvH X a C fs e σd Gs Q := fun oe od pn F σ H hz hv hx ob sl =>
  h ((a, oe) :: pn) (fun _ _ => False) (fun _ _ _ => False) F σ H ⟨takes0, PassesOwn.never⟩ (fun c od H' ⟨_, _, _, _, _, _, _, z⟩ => z.elim) ob sl
/-- n.f -/
theorem eh_fld {a : Addr} {C : Addr} {fs : List (Str × Dl.D)} {i : Nat} {n f : Str} {d : Dl.D} {np : Pos} (B : Bd X P w K mg base sc N Vs GN k) (T : XfC K C) (hno : PySem.W.findIn K (.ref C) f = some none) (hN : At N i n) (hV : Vs[i]? = some 2) (hs : σd[i]? = some (some (.ref a))) (hl : fs = [(f, d)]) (q : Q d Gs) : EvH X a C fs (.Attribute (.Name n np) f pos) σd Gs Q := by
  subst hl
  obtain ⟨rfl, rfl, rfl, rfl, rfl, rfl, _, _, _, _, _, nm, _⟩ := B
  intro oe od pn F σ H hz hv hx ob sl
  obtain ⟨v1, v2, v3⟩ := nm.vis i n 1 hN.get hV
  rcases hx with hx | ⟨dd, vs, _, ed, n', t, r⟩
  · cases hx.1
  · obtain ⟨v, vr, ev, r1, r2⟩ := r
    cases (show vr = [] from r2)
    subst ev
    obtain ⟨v0, e0, r0⟩ := sl.2 i _ hs
    cases (show v0 = .ref a from r0)
    refine (pe_xf (X := X) T hno hz hv (pe_var (X := X.suite a ((a, oe) :: pn)) (i := i) hN.get v1 v2 v3)).get ?_
    exact ⟨.ref a, e0, rfl, rfl, dd, _, v, ed, t, by simp [List.lookup], Post.of ob Keep.refl r1 q⟩
theorem eh_tup2 {a : Addr} {C : Addr} {fs : List (Str × Dl.D)} {e1 e2 : Expr} {x1 : Nat} (h : EvH X a C fs e1 σd Gs (fun x G => EvH X a C fs e2 σd G (fun y G2 => Q (.tup [x, y]) G2)))
    (hs : starEach [e1, e2] X.env = (false, eval e1 X.env) :: starEach [e2] X.env := by rfl) (hs2 : starEach [e2] X.env = (false, eval e2 X.env) :: starEach [] X.env := by rfl) : EvH X a C fs (.Tuple [e1, e2] x1 pos) σd Gs Q := by
  intro oe od pn F σ H hz hv hx ob sl
  refine (pe_tup (X := X.suite a ((a, oe) :: pn)) (pa_cons PE.self (pa_cons PE.self pa_nil hs2) hs)).get ?_
  refine (h oe od pn F σ H hz hv hx ob sl).imp fun v1 H1 ⟨d1, G1, ob1, k1, r1, h2⟩ => ?_
  refine (h2 oe od pn F σ H1 hz hv (hx.keep k1) ob1 (sl.keep k1)).imp fun v2 H2 ⟨d2, G2, ob2, k2, r2, q⟩ => ?_
  refine ⟨by show 2 ≤ sizeLine; rw [sizeLine_eq]; decide, fun p hp => ?_⟩
  have k3 := Keep.newF (N := dm (tot G2 F)) (o := .tup [v1, v2]) hp
  exact Post.of (d := .tup [d1, d2]) (ob2.newF hp) ((k1.trans k2).trans k3) ⟨p, [v1, v2], rfl, .inl ⟨ob2.mem_none hp, .inl upd_same⟩, ⟨v1, _, rfl, RD.keep (k2.trans k3) _ _ r1, ⟨v2, _, rfl, RD.keep k3 _ _ r2, rfl⟩⟩⟩ q
theorem su_ret {a : Addr} {C : Addr} {fs : List (Str × Dl.D)} (h : EvH X a C fs e σd Gs rt) : SuD X a C fs [.Return (some e) pos] σd Gs ⟨nx, rt, bk, ct, ex⟩ := by
  intro oe od pn F σ H hz hv hx ob sl
  refine (pss_cons (X := X.suite a ((a, oe) :: pn)) (ps_ret PE.self) pss_nil).get ?_
  exact h oe od pn F σ H hz hv hx ob sl
/-- a suite that does not look at it -/
theorem su_of {a : Addr} {C : Addr} {fs : List (Str × Dl.D)} (h : SsD (X.suite a []) sts σd Gs ⟨nx, rt, bk, ct, R0⟩) : SuD X a C fs sts σd Gs ⟨nx, rt, bk, ct, ex⟩ := fun oe od pn F σ H hz hv hx ob sl =>
  h ((a, oe) :: pn) (fun _ _ => False) (fun _ _ _ => False) F σ H ⟨takes0, PassesOwn.never⟩ (fun c od H' ⟨_, _, _, _, _, _, _, z⟩ => z.elim) ob sl
/-- an except clause: its class, the slot of its name, its suite -/
structure Cl where
  c : Addr
  i : Option Nat
  st : List Stmt
/-- what the clauses do with an exception of the class C, the fields fs -/
def CatchD (X : Cx) (n : Nat) (D : DE) (C : Addr) (fs : List (Str × Dl.D)) (G : Pt) : List Cl → Prop
  | [] => D.ex C fs G
  | cl :: r => ∃ b, PySem.W.exmOne X.K (.ref C) (.ref cl.c) = some b ∧
      (b = true → ∀ a, match cl.i with
        | none => SuD X a C fs cl.st (List.replicate n none) G D
        | some i => SuD X a C fs cl.st ((List.replicate n none).set i (some (.ref a))) G ⟨fun σ => D.nx (σ.set i none), D.rt, fun σ => D.bk (σ.set i none), fun σ => D.ct (σ.set i none), D.ex⟩) ∧
      (b = false → CatchD X n D C fs G r)
theorem sl_none {N' : List Addr} {H : Hp} {σ : L2.St} : Sl K N' H (List.replicate σ.length none) σ := by
  refine ⟨List.length_replicate .., fun i d e => ?_⟩
  rw [List.getElem?_replicate] at e
  split at e <;> cases e
end
end Dl
namespace Dl
open PySem PySem.Spec PyProof.Rows L2
/-! ### try: clauses with and without a name -/
/-- a clause: its class, the slot of its name, what its suite asks -/
abbrev Clz := Value × Option Nat × (Addr → Value → Option Addr → TS)
def endAs (D : Ends) (i : Nat) : Ends := { nx := fun τ J => D.nx (τ.set i none) J, rt := D.rt, bk := fun τ J => D.bk (τ.set i none) J, ct := fun τ J => D.ct (τ.set i none) J }
def wMix (K : PySem.W.Frag) (Wo : WX) (D : Ends) : List Clz → WX
  | [] => Wo
  | (c, none, ts) :: r => fun cls od τ J => ∃ b, PySem.W.exmOne K cls c = some b ∧ (b = true → ∀ x, J x = none → ts x cls od D τ J) ∧ (b = false → wMix K Wo D r cls od τ J)
  | (c, some i, ts) :: r => fun cls od τ J => ∃ b, PySem.W.exmOne K cls c = some b ∧ (b = true → ∀ x, J x = none → ts x cls od (endAs D i) (τ.set i (some (.ref x))) J) ∧ (b = false → wMix K Wo D r cls od τ J)
inductive MixOk (X : Cx) : List ExceptHandler → List Clz → Prop
  | nil : MixOk X [] []
  | one {x : Str} {c : Value} {ts : Addr → Value → Option Addr → TS} {b0 : Stmt} {bs : List Stmt} {p1 p2 : Pos} {hs : List ExceptHandler} {l : List Clz} (nm : L2.Names X x c)
      (su : ∀ (a : Addr) (oe : Obj) (cls : Value) (od : Option Addr) (pn : List (Addr × Obj)), Zc cls od oe → (∃ vs, oe.data = .fields vs) → PSs (X.suite a ((a, oe) :: pn)) (b0 :: bs) (ts a cls od)) (r : MixOk X hs l) :
      MixOk X (.ExceptHandler (some (.Name x p1)) none (b0 :: bs) p2 :: hs) ((c, none, ts) :: l)
  | as {x n : Str} {i : Nat} {c : Value} {ts : Addr → Value → Option Addr → TS} {b0 : Stmt} {bs : List Stmt} {p1 p2 : Pos} {hs : List ExceptHandler} {l : List Clz} (nm : L2.Names X x c) (hi : X.N[i]? = some n) (hl : X.env.kindOf n = some .local)
      (su : ∀ (a : Addr) (oe : Obj) (cls : Value) (od : Option Addr) (pn : List (Addr × Obj)), Zc cls od oe → (∃ vs, oe.data = .fields vs) → PSs (X.suite a ((a, oe) :: pn)) (b0 :: bs) (ts a cls od)) (r : MixOk X hs l) :
      MixOk X (.ExceptHandler (some (.Name x p1)) (some n) (b0 :: bs) p2 :: hs) ((c, some i, ts) :: l)
theorem out_try {X : Cx} {pins pn' : List (Addr × Obj)} {xe : Value → Shared → Prop} {D : Ends} {f : Flow} {s : Shared} (ok : X.Ok) (h : SP (X.tr (X.pn ++ pins) xe) pn' D f s) : SP X pins D f s := by
  cases f with
  | next => obtain ⟨τ, J, I, q⟩ := h; exact ⟨τ, J, I.ofTry ok, q⟩
  | brk => obtain ⟨τ, J, I, q⟩ := h; exact ⟨τ, J, I.ofTry ok, q⟩
  | cont => obtain ⟨τ, J, I, q⟩ := h; exact ⟨τ, J, I.ofTry ok, q⟩
  | ret u => obtain ⟨v, τ, J, I, r, q⟩ := h; exact ⟨v, τ, J, I.ofTry ok, r, q⟩
theorem out_suite {X : Cx} {pins pn' : List (Addr × Obj)} {a : Addr} {q0 : Addr × Obj} {D : Ends} {f : Flow} {s : Shared} (ok : X.Ok) (h : SP (X.suite a (q0 :: (X.pn ++ pins))) pn' D f s) : SP X pins D f s := by
  cases f with
  | next => obtain ⟨τ, J, I, q⟩ := h; exact ⟨τ, J, I.unsuite ok, q⟩
  | brk => obtain ⟨τ, J, I, q⟩ := h; exact ⟨τ, J, I.unsuite ok, q⟩
  | cont => obtain ⟨τ, J, I, q⟩ := h; exact ⟨τ, J, I.unsuite ok, q⟩
  | ret u => obtain ⟨v, τ, J, I, r, q⟩ := h; exact ⟨v, τ, J, I.unsuite ok, r, q⟩
theorem ask_cls {X : Cx} {y : Str} {c : Value} {a : Addr} {oe : Obj} {pn : List (Addr × Obj)} {τ : L2.St} {J : Hp} {s : Shared} {p : Pos} {Q : Value → Shared → Prop} {E : Value → Shared → Prop} (S : Inv (X.suite a ((a, oe) :: pn)) [] τ J s) (nm : L2.Names X y c) (q : Q c s) :
    wpAny (model X.prog X.w) (X.A.mark (some (.ref a))) (eval (.Name y p) X.env) Q E s := by
  obtain ⟨g1, g2, g3 | ⟨g3, g4, g5⟩⟩ := nm
  · exact ld_glob (X := X.suite a ((a, oe) :: pn)) S g1 g3 q g2
  · exact ld_blt (X := X.suite a ((a, oe) :: pn)) S g1 g3 g4 q g5 g2
section
variable {X : Cx} {body : List Stmt} {h0 : ExceptHandler} {hs : List ExceptHandler} {l : List Clz} {pos : Pos} {tb : WX → TS} {Wo : WX}
theorem ps_mix (ek : X.stack = X.env :: X.outer) (ef : X.env.frame = some X.env.locals) (nd : X.N.Nodup) (tk : Takes X Wo)
    (hb : ∀ (W : WX) (pn : List (Addr × Obj)) (xe : Value → Shared → Prop), Takes (X.tr pn xe) W → PassesOwn (model X.prog X.w) X.A X.env xe → PSs (X.tr pn xe) body (tb W))
    (hh : MixOk X (h0 :: hs) l) : PS X (.Try body (h0 :: hs) [] [] pos) (fun D σ H => tb (wMix X.K Wo D l) D σ H) := by
  refine ⟨fun pins s σ H D I h => wpAny_Try_except ?_⟩
  have ok := I.ok
  have fr : X.A.frames = some (X.env :: X.outer) := by rw [ok.frames, ek]
  let xe : Value → Shared → Prop := fun u s₁ => wpAny (model X.prog X.w) X.A (noteFrame u X.env) (fun _ s₂ => wpAny (model X.prog X.w) X.A (setFlight u none) (fun _ s₃ => wpAny (model X.prog X.w) X.A (handleBy u X.env (h0 :: hs)) (SP X pins D) X.xe s₃) X.xe s₂) X.xe s₁
  have land : Takes (X.tr (X.pn ++ pins) xe) (wMix X.K Wo D l) := by
    intro u s' ⟨x, B0, sI, ps', τ, J, cls, od, eu, I', nb, up, sky, na, eos, ag, wish⟩
    subst eu
    have IX : Inv X pins τ J sI := I'.ofTry ok
    have sky2 : Sky B0 (X.env :: X.outer) x (Zc cls od) X.env.locals s'.heap := by
      rw [← ek]
      exact sky
    show wpAny (model X.prog X.w) X.A (noteFrame (.ref x) X.env) _ _ _
    refine Sky.land Zc.steady fr ef sky2 fun g fl upg => ?_
    have up2 := up.trans upg
    have IG : Inv X pins τ J { s' with heap := g } := IX.landed nb fl.1 up2 eos ag
    obtain ⟨og, vg, eg, zg, dg⟩ := fl.there
    have nfr : x ∉ frs (X.env :: X.outer) := fun hm => by
      obtain ⟨_, o', e', hn⟩ := fl.2.2.1.mem hm
      rw [eg] at e'
      cases e'
      exact hn _ dg
    have nL : x ≠ X.env.locals := fun z => nfr (List.mem_filterMap.mpr ⟨X.env, List.mem_cons_self, by rw [ef, z]⟩)
    have nF : x ∉ X.fs := fun hm => by
      obtain ⟨v, hv, q⟩ := List.mem_filterMap.mp hm
      exact nfr (List.mem_filterMap.mpr ⟨v, List.mem_cons_of_mem _ hv, q⟩)
    have SG := IG.suite eg dg na nL nF
    have lt : PySem.W.Looks (model X.prog X.w) g (typeOf (.ref x)) cls := fun A Q E s k q => wpAny_typeOf_ref (k _ _ eg) (by rw [zg.1]; exact q)
    have go : ∀ {r : List ExceptHandler} {l' : List Clz}, MixOk X r l' → wMix X.K Wo D l' cls od τ J → wpAny (model X.prog X.w) X.A (handleBy (.ref x) X.env r) (SP X pins D) X.xe { s' with heap := g } := by
      intro r l' hk
      induction hk with
      | nil =>
        intro wi
        obtain ⟨_, _, _, oz, vz, T, oT, tz, z1, z2, z3, z4, z5⟩ := id fl
        refine wpAny_handleBy_nil ?_
        unfold PySem.passOn
        refine wpAny_bind (wpAny_field z1 z3 z4 ?_)
        rw [if_neg (by simp : ¬ ((Value.ref T == Value.none) = true))]
        have fin : wpAny (model X.prog X.w) X.A (setFlight (.ref x) X.env.frame) (fun _ s4 => wpAny (model X.prog X.w) X.A (throw (.ref x) : Sem Flow) (SP X pins D) X.xe s4) X.xe { s' with heap := g } := by
          rw [ef]
          refine HandSPX.setFlight_upZ fl fun g4 hg4 up4 => wpAny_throw (tk _ _ ⟨x, B0, sI, pins, τ, J, cls, od, rfl, IX, nb, up2.trans up4, .inr (.inr ?_), na, eos, ag, wi⟩)
          rw [ek]
          exact hg4
        first
          | exact wpAny_bind (wpAny_pure (wpAny_bind fin))
          | exact wpAny_bind fin
      | one nm su _ ih =>
        intro wi
        obtain ⟨b, hb1, yes, no⟩ := wi
        refine wpAny_handleBy_cons (codeAny_handlers_test (ask_cls SG nm ((PySem.W.exm_one (M := model X.prog X.w) IG.kIn lt hb1).here ?_))) (fun z => by cases z)
        cases b with
        | true =>
          refine codeAny_handlers_suite (HandSPX.lands_againZ fl fun g4 fl4 up4 => ?_)
          have I4 : Inv X pins τ J { s' with heap := g4 } := IX.landed nb fl4.1 (up2.trans up4) eos ag
          obtain ⟨o4, v4, e4, z4, d4⟩ := fl4.there
          refine wpAny_mono ((su x o4 cls od (X.pn ++ pins) z4 ⟨_, d4⟩).run [] _ _ J _ (I4.suite e4 d4 na nL nF) (yes rfl x na)) (fun f s6 q => ?_) fun _ _ z => z.elim
          have q' := out_suite ok q
          cases f with
          | next => exact q'
          | brk => exact q'
          | cont => exact q'
          | ret u => exact q'
        | false =>
          exact ih (no rfl)
      | @as y n i c ts b0 bs p1 p2 hs2 l2 nm hi hl su _ ih =>
        intro wi
        obtain ⟨b, hb1, yes, no⟩ := wi
        refine wpAny_handleBy_cons (codeAny_handlers_test (ask_cls SG nm ((PySem.W.exm_one (M := model X.prog X.w) IG.kIn lt hb1).here ?_))) (fun z => by cases z)
        cases b with
        | true =>
          refine codeAny_handlers_suite_as (HandSPX.lands_againZ fl fun g4 fl4 up4 => ?_)
          have I4 : Inv X pins τ J { s' with heap := g4 } := IX.landed nb fl4.1 (up2.trans up4) eos ag
          obtain ⟨o4, v4, e4, z4, d4⟩ := fl4.there
          refine store_ok (X := X.suite x ((x, o4) :: (X.pn ++ pins))) (v := .ref x) (I4.suite e4 d4 na nL nF) nd hi (.inl hl) rfl (fun s5 S5 => ?_) (.inr hl)
          refine wpAny_mono ((su x o4 cls od (X.pn ++ pins) z4 ⟨_, d4⟩).run [] s5 _ J _ S5 (yes rfl x na)) (fun f s6 q => ?_) fun _ _ z => z.elim
          have q' := out_suite ok q
          have away : ∀ {τ6 : L2.St} {J6 : Hp} {Z : Shared → Prop}, Inv X pins τ6 J6 s6 → (∀ s7, Inv X pins (τ6.set i none) J6 s7 → Z s7) → wpAny (model X.prog X.w) X.A (do bindName X.env n .none; unbindBehindTheSuite X.env n p2) (fun _ s7 => Z s7) X.xe s6 := fun I6 k => gone_ok I6 nd hi hl k
          cases f with
          | next =>
            obtain ⟨τ6, J6, I6, q6⟩ := q'
            exact away I6 fun s7 I7 => ⟨_, _, I7, q6⟩
          | brk =>
            obtain ⟨τ6, J6, I6, q6⟩ := q'
            exact away I6 fun s7 I7 => ⟨_, _, I7, q6⟩
          | cont =>
            obtain ⟨τ6, J6, I6, q6⟩ := q'
            exact away I6 fun s7 I7 => ⟨_, _, I7, q6⟩
          | ret u =>
            obtain ⟨v6, τ6, J6, I6, r6, q6⟩ := q'
            exact away I6 fun s7 I7 => ⟨_, _, _, I7, r6, q6⟩
        | false =>
          exact ih (no rfl)
    exact go hh wish
  refine wpAny_mono ((hb (wMix X.K Wo D l) (X.pn ++ pins) xe land PassesOwn.looking).run [] s σ H D (I.toTry _) h) (fun f s1 q => ?_) fun _ _ z => z
  have q' := out_try ok q
  cases f with
  | next => exact wpAny_execs_nil q'
  | brk => exact q'
  | cont => exact q'
  | ret u => exact q'
end
/-! ### .. over D -/
section
variable {X : Cx} {P : Program} {w : World} {K : PySem.W.Frag} {mg : Str → Option Value} {base : Heap} {sc : Scope} {N : List Str} {Vs : List Nat} {GN : List Str} {k : Nat}
variable {σd : Sd} {Gs : Pt} {body : List Stmt} {hs : List ExceptHandler} {h0 : ExceptHandler} {pos : Pos}
variable {nx bk ct : Sd → Pt → Prop} {rt : QD} {ex : RX}
/-- the clauses as they are written -/
inductive Clauses (N : List Str) (GN : List Str) (mg : Str → Option Value) (sc : Scope) : List ExceptHandler → List Cl → Prop
  | nil : Clauses N GN mg sc [] []
  | one {x : Str} {C : Addr} {j : Nat} {b0 : Stmt} {bs : List Stmt} {p1 p2 : Pos} {hs : List ExceptHandler} {l : List Cl} (hG : At GN j x) (hm : mg x = some (.ref C)) (r : Clauses N GN mg sc hs l) :
      Clauses N GN mg sc (.ExceptHandler (some (.Name x p1)) none (b0 :: bs) p2 :: hs) (⟨C, none, b0 :: bs⟩ :: l)
  | as {x n : Str} {C : Addr} {i j : Nat} {b0 : Stmt} {bs : List Stmt} {p1 p2 : Pos} {hs : List ExceptHandler} {l : List Cl} (hG : At GN j x) (hm : mg x = some (.ref C)) (hN : At N i n) (hl : sc.names.lookup n = some .local) (r : Clauses N GN mg sc hs l) :
      Clauses N GN mg sc (.ExceptHandler (some (.Name x p1)) (some n) (b0 :: bs) p2 :: hs) (⟨C, some i, b0 :: bs⟩ :: l)
/-- what a clause's suite asks: just itself -/
def suAsk (X : Cx) (st : List Stmt) : Addr → Value → Option Addr → TS := fun a cls od D σ H => ∀ oe pn, Zc cls od oe → (∃ vs, oe.data = .fields vs) → semB (X.suite a ((a, oe) :: pn)) st D σ H
theorem suAsk_ok {X : Cx} {st : List Stmt} (a : Addr) (oe : Obj) (cls : Value) (od : Option Addr) (pn : List (Addr × Obj)) (hz : Zc cls od oe) (hv : ∃ vs, oe.data = .fields vs) : PSs (X.suite a ((a, oe) :: pn)) st (suAsk X st a cls od) :=
  ⟨fun pins s σ H D I h => h oe pn hz hv pins s I⟩
def clz (X : Cx) (cl : Cl) : Clz := (.ref cl.c, cl.i, suAsk X cl.st)
theorem mixOk_of (B : Bd X P w K mg base sc N Vs GN k) (pn : List (Addr × Obj)) (xe : Value → Shared → Prop) {hs : List ExceptHandler} {l : List Cl} (h : Clauses N GN mg sc hs l) : MixOk (X.tr pn xe) hs (l.map (clz X)) := by
  obtain ⟨rfl, rfl, rfl, rfl, rfl, rfl, rfl, _, _, _, _, nm, _⟩ := B
  induction h with
  | nil => exact .nil
  | one hG hm _ ih =>
    obtain ⟨g1, g2, _⟩ := nm.gl _ _ hG.get
    exact .one ⟨g1, g2, .inl hm⟩ (fun a oe cls od pn => suAsk_ok a oe cls od pn) ih
  | as hG hm hN hl _ ih =>
    obtain ⟨g1, g2, _⟩ := nm.gl _ _ hG.get
    exact .as ⟨g1, g2, .inl hm⟩ hN.get hl (fun a oe cls od pn => suAsk_ok a oe cls od pn) ih
theorem Sl.forget {N' : List Addr} {H : Hp} {τd : Sd} {τ : L2.St} (h : Sl K N' H τd τ) (i : Nat) : Sl K N' H (τd.set i none) (τ.set i none) := by
  refine ⟨by rw [List.length_set, List.length_set]; exact h.1, fun j d e => ?_⟩
  by_cases hj : i = j
  · subst hj
    have hi : i < τd.length := by
      have := (List.getElem?_eq_some_iff.mp e).1
      rwa [List.length_set] at this
    rw [List.getElem?_set_self hi] at e
    cases e
  · rw [List.getElem?_set_ne hj] at e ⊢
    exact h.2 j d e
theorem takes_len {Y : Cx} {W W' : WX} (t : Takes Y W) (h : ∀ c d τ J, τ.length = Y.N.length → W' c d τ J → W c d τ J) : Takes Y W' := fun u s' ⟨a, B0, sI, ps, τ, J, cls, od, e, I, nb, up, sky, na, eos, ag, wi⟩ =>
  t u s' ⟨a, B0, sI, ps, τ, J, cls, od, e, I, nb, up, sky, na, eos, ag, h _ _ _ _ I.len wi⟩
theorem wish_of {F : List Cell} {Wo : WX} {D : DE} {H0 : Hp} {n : Nat} {C : Addr} {fs : List (Str × Dl.D)} {od : Option Addr} {H' : Hp} {G' : Pt} {Gs0 : Pt} {τ : L2.St} (ob : Ob X.K (tot G' F) H') (kp : Keep (dm (tot Gs0 F)) H0 (dm (tot G' F)) H') (xr : XR X.K (dm (tot G' F)) H' od fs) (hl : τ.length = n)
    (hW : D.ex C fs G' → Wo (.ref C) od τ H') : ∀ {l : List Cl}, CatchD X n D C fs G' l → wMix X.K Wo (EndsOf X.K F Gs0 H0 D) (l.map (clz X)) (.ref C) od τ H'
  | [], h => hW h
  | ⟨c, none, st⟩ :: r, h => by
    obtain ⟨b, h1, h2, h3⟩ := h
    refine ⟨b, h1, fun hb a _ oe pn hz hv => ?_, fun hb => wish_of ob kp xr hl hW (h3 hb)⟩
    have := (h2 hb a) oe od pn F τ H' hz hv xr ob (by rw [← hl]; exact sl_none)
    exact semB.imp this (EndsOf.trans kp)
  | ⟨c, some i, st⟩ :: r, h => by
    obtain ⟨b, h1, h2, h3⟩ := h
    refine ⟨b, h1, fun hb a _ oe pn hz hv => ?_, fun hb => wish_of ob kp xr hl hW (h3 hb)⟩
    have s0 : Sl X.K (dm (tot G' F)) H' ((List.replicate n none).set i (some (.ref a))) (τ.set i (some (.ref a))) := by
      rw [← hl]
      exact sl_none.set (d := .ref a) rfl i
    have := (h2 hb a) oe od pn F _ H' hz hv xr ob s0
    refine semB.imp this ⟨?_, fun v J q => q.trans kp, ?_, ?_⟩
    all_goals
      intro τ' J ⟨σd', G2, ob2, k2, sl2, q⟩
      exact ⟨_, G2, ob2, kp.trans k2, sl2.forget i, q⟩
theorem stry_ {l : List Cl} (B : Bd X P w K mg base sc N Vs GN k) (Bt0 : Bt X) (hc : Clauses N GN mg sc (h0 :: hs) l)
    (h : SsD X body σd Gs ⟨nx, rt, bk, ct, fun C fs G' => CatchD X N.length ⟨nx, rt, bk, ct, ex⟩ C fs G' l⟩) : StD X (.Try body (h0 :: hs) [] [] pos) σd Gs ⟨nx, rt, bk, ct, ex⟩ := by
  intro pn xe E F σ H wh hE ob sl
  have mx := mixOk_of B pn xe hc
  refine (ps_mix (X := X.tr pn xe) (Wo := fun c d _ J => E c d J) (tb := fun W D σ H => ∀ pn' xe', Takes (X.tr pn' xe') W → PassesOwn (model X.prog X.w) X.A X.env xe' → semB (X.tr pn' xe') body D σ H) Bt0.hs Bt0.hfr (by rw [show (X.tr pn xe).N = N from B.eN]; exact B.nd) wh.tk
    (fun W pn' xe' tk po => ⟨fun pins s σ H D I q => q pn' xe' tk po pins s I⟩) mx).get ?_
  intro pn' xe' tk po
  refine h pn' xe' (fun c d J => ∀ τ : L2.St, τ.length = N.length → wMix X.K (fun c d _ J => E c d J) (EndsOf X.K F Gs H ⟨nx, rt, bk, ct, ex⟩) (l.map (clz X)) c d τ J) F σ H ⟨takes_len tk fun c d τ J hl q => q τ (by rw [hl]; exact congrArg List.length B.eN), po⟩ ?_ ob sl
  intro c od H' ⟨C, fs, G', ec, ob', kp, xr, cd⟩ τ hl
  subst ec
  exact wish_of ob' kp xr hl (fun q => hE _ _ _ ⟨C, fs, G', rfl, ob', kp, xr, q⟩) cd
end
end Dl
namespace Dl
open PySem PySem.Spec PyProof.Rows L2

/-! ### repr -/
def shD (d : D) : Str := (pd d).shown
/-- data at most n deep whose repr has at most so many signs -/
structure Rp (n wt : Nat) (d : D) : Prop where
  sh : shN n d = true
  ok : (pd d).showable = true
  sz : (pd d).shown.length ≤ wt
theorem Rp.mono {n wt wt' : Nat} {d : D} (h : Rp n wt d) (hw : wt ≤ wt') : Rp n wt' d := ⟨h.sh, h.ok, Nat.le_trans h.sz hw⟩
theorem rp_non {n : Nat} : Rp n 4 .non := ⟨by simp [shN], by simp [pd, PyData.showable], by simp only [pd, PyData.shown]; decide⟩
theorem rp_bl {n : Nat} {b : Bool} : Rp n 5 (.bl b) := ⟨by simp [shN], by simp [pd, PyData.showable], by cases b <;> (simp only [pd, PyData.shown]; decide)⟩
theorem rp_int {n : Nat} {i : Int} (h : i.natAbs.log2 < 1920) : Rp n 1921 (.int i) := ⟨by simp [shN], by simpa [pd, PyData.showable] using h, by simp only [pd, PyData.shown]; exact int_text_len_1921 h⟩
theorem log_small {i : Int} (h1 : -(2 ^ 64) < i) (h2 : i < 2 ^ 64) : i.natAbs.log2 < 1920 := by
  have h3 : i.natAbs < 2 ^ 64 := by omega
  by_cases h0 : i.natAbs = 0
  · rw [h0]
    decide
  · exact Nat.lt_trans ((Nat.log2_lt h0).mpr h3) (by decide)
theorem rp_str {n m : Nat} {x : Str} (hx : PyData.strOk x = true) (hc : ∀ c ∈ x.cps.toList, c < 16 ^ 8) (hm : x.length ≤ m) : Rp n (10 * m + 2) (.str x) :=
  ⟨by cases n <;> simpa [shN] using hx, by simp [pd, PyData.showable], by
    simp only [pd, PyData.shown]
    have := StrLaws.reprText_len x hc
    omega⟩
theorem rp_S {n m : Nat} {l : List Nat} (hc : ∀ c ∈ l, c < 1114112) (hm : l.length ≤ m) : Rp n (10 * m + 2) (.str (S l)) :=
  rp_str (strOk_S hc) (fun c h => Nat.lt_trans (hc c h) (by decide)) (by rw [S_len]; exact hm)
theorem shownAll_map : ∀ ds : List D, PyData.shownAll (pds ds) = ds.map shD
  | [] => by simp [pds, PyData.shownAll]
  | d :: r => by
    simp only [pds, PyData.shownAll, List.map_cons, shownAll_map r]
    rfl
theorem showableAll_map : ∀ ds : List D, (∀ d ∈ ds, (pd d).showable = true) → PyData.showableAll (pds ds) = true
  | [], _ => by simp [pds, PyData.showableAll]
  | d :: r, h => by
    simp only [pds, PyData.showableAll, Bool.and_eq_true]
    exact ⟨h d List.mem_cons_self, showableAll_map r fun x hx => h x (List.mem_cons_of_mem _ hx)⟩
theorem sum_le_of {l : List Nat} {b : Nat} (h : ∀ x ∈ l, x ≤ b) : l.sum ≤ l.length * b := by
  induction l with
  | nil => simp
  | cons x r ih =>
    have h1 := h x List.mem_cons_self
    have h2 := ih fun y hy => h y (List.mem_cons_of_mem _ hy)
    rw [List.sum_cons, List.length_cons, Nat.succ_mul]
    omega
theorem rp_all {n wt : Nat} {ds : List D} (h : ∀ d ∈ ds, Rp n wt d) : ds.all (shN n) = true ∧ PyData.showableAll (pds ds) = true ∧ ((ds.map shD).map (·.length)).sum ≤ ds.length * wt := by
  refine ⟨List.all_eq_true.mpr fun d hd => (h d hd).sh, showableAll_map ds fun d hd => (h d hd).ok, ?_⟩
  have := sum_le_of (l := (ds.map shD).map (·.length)) (b := wt) fun x hx => by
    rw [List.map_map] at hx
    obtain ⟨d, hd, rfl⟩ := List.mem_map.mp hx
    exact (h d hd).sz
  rwa [List.length_map, List.length_map] at this
theorem rp_lst {n wt m : Nat} {ds : List D} (h : ∀ d ∈ ds, Rp n wt d) (hm : ds.length ≤ m) : Rp (n + 1) (m * (wt + 2) + 3) (.lst ds) := by
  obtain ⟨h1, h2, h3⟩ := rp_all h
  refine ⟨by simpa only [shN] using h1, by simpa only [pd, PyData.showable] using h2, ?_⟩
  simp only [pd, PyData.shown, shownAll_map]
  have h4 := listText_len_le (ds.map shD)
  rw [List.length_map] at h4
  have h5 : ds.length * (wt + 2) ≤ m * (wt + 2) := Nat.mul_le_mul_right _ hm
  rw [Nat.mul_add] at h5
  omega
theorem rp_tup {n wt m : Nat} {ds : List D} (h : ∀ d ∈ ds, Rp n wt d) (hm : ds.length ≤ m) : Rp (n + 1) (m * (wt + 2) + 3) (.tup ds) := by
  obtain ⟨h1, h2, h3⟩ := rp_all h
  refine ⟨by simpa only [shN] using h1, by simpa only [pd, PyData.showable] using h2, ?_⟩
  simp only [pd, PyData.shown, shownAll_map]
  have h4 := tupleText_len_le (ds.map shD)
  rw [List.length_map] at h4
  have h5 : ds.length * (wt + 2) ≤ m * (wt + 2) := Nat.mul_le_mul_right _ hm
  rw [Nat.mul_add] at h5
  omega
def rRep (K : PySem.W.Frag) : List V → Hp → VK → Prop := fun xs H Q => ∃ (v : V) (p : PyData), xs = [v] ∧ Dp K H v p ∧ p.showable = true ∧ p.hasDict = false ∧ p.depth ≤ 60 ∧ p.shown.length ≤ sizeLine ∧ Q (.str p.shown) H
theorem cr_repr {X : Cx} (hg : X.A.guards = some []) (hu : X.A.units + 65 < cLine) : CallR X (.builtin "repr") (rRep X.K) := by
  intro pins s σ H xs us Q I r h
  obtain ⟨v, p, rfl, dp, h1, h2, h3, h4, q⟩ := h
  obtain ⟨u, rfl, ru⟩ := vals1 r
  have go : ∀ {a : Addr} {as : List Addr}, Reads s.heap (.ref a) p as → wpAny (model X.prog X.w) X.A (call (.builtin "repr") [.ref a]) (EP X pins σ Q) X.xe s := fun {a as} rd =>
    repr_of_reads' rd h1 (PyData.noDict_hsm h2) hg (by omega) (fun _ _ e => e) (fun h' u tk k => ⟨.str p.shown, H, I.kept (t' := tk) k, ⟨_, rfl⟩, q⟩) h4
  cases dp with
  | non =>
    cases (show u = Value.none from ru)
    exact PySem.P.repr_of_none ⟨.str _, H, I.tok _, ⟨_, rfl⟩, by simpa only [PyData.shown] using q⟩
  | bl b =>
    cases (show u = Value.bool b from ru)
    refine PySem.P.repr_of_bool ⟨.str _, H, I.tok _, ⟨_, rfl⟩, ?_⟩
    cases b <;> simpa only [PyData.shown] using q
  | int i =>
    obtain ⟨t, rfl⟩ := ru
    exact PySem.P.repr_of_int (by simpa [PyData.showable] using h1) ⟨.str _, H, I.tok _, ⟨_, rfl⟩, by simpa only [PyData.shown] using q⟩
  | str x =>
    obtain ⟨t, rfl⟩ := ru
    exact PySem.P.repr_of_str ⟨.str _, H, I.tok _, ⟨_, rfl⟩, by simpa only [PyData.shown] using q⟩ (by simpa only [PyData.shown] using h4)
  | @lst a ys ds hs hd =>
    cases (show u = Value.ref a from ru)
    obtain ⟨as, rd⟩ := Dp.reads I (.list ds) (.ref a) (.ref a) (.lst hs hd) rfl
    exact go rd
  | @tup a ys ds hs hd =>
    cases (show u = Value.ref a from ru)
    obtain ⟨as, rd⟩ := Dp.reads I (.tuple ds) (.ref a) (.ref a) (.tup hs hd) rfl
    exact go rd
section
variable {X : Cx} {P : Program} {w : World} {K : PySem.W.Frag} {mg : Str → Option Value} {base : Heap} {sc : Scope} {N : List Str} {Vs : List Nat} {GN : List Str} {k : Nat}
variable {σd : Sd} {Gs : Pt} {Q : QD} {R : RX} {e a b c o tg iter elt : Expr} {es : List Expr} {pos p2 apos cpos : Pos} {sts : List Stmt}
theorem k_repr {n wt : Nat} {x d : D} (B : Bd X P w K mg base sc N Vs GN k) (ix : IsD X.K Gs x d) (h : Rp n wt d) (hn : n ≤ 60) (hw : wt ≤ sizeLine) (q : Q (.str (shD d)) Gs) : CalD X (.builtin "repr") [x] Gs Q :=
  ⟨rRep X.K, fun pn xe => cr_repr (X := X.tr pn xe) B.gd (hu65 (X := X) B), fun F H vs ob r => by
    obtain ⟨v, _, rfl, rv, rfl⟩ := r
    obtain ⟨h1, h2⟩ := lay_of n d h.sh
    exact ⟨v, pd d, rfl, ix F H v ob rv, h.ok, PyData.hasDict_of_canLay _ h1, by omega, Nat.le_trans h.sz hw, Post.of (d := .str (shD d)) ob Keep.refl rfl q⟩⟩
/-! ### isinstance(e, T), T a built-in type -/
theorem kitB_self (T : String) : kitB T T = some true := by
  unfold kitB
  rw [if_pos (by simp)]
def TxD (K : PySem.W.Frag) (x : D) (Gs : Pt) (T : String) : Prop := ∀ F H vx, Ob K (tot Gs F) H → RD K (dm (tot Gs F)) H x vx → TyX K H vx (.type T)
theorem tx_lst {ds : List D} : TxD K (.lst ds) Gs "list" := fun F H vx ob r => by
  obtain ⟨a, vs, rfl, n, t, r⟩ := r
  exact .base (.lst t)
theorem tx_own {p : Addr} {ds : List D} (h : Has Gs p (.lst ds)) : TxD K (.ref p) Gs "list" := fun F H vx ob r => by
  cases (show vx = .ref p from r)
  obtain ⟨o, e, vs, rfl, r⟩ := ob.get h
  exact .base (.lst e)
theorem tx_tup {ds : List D} : TxD K (.tup ds) Gs "tuple" := fun F H vx ob r => by
  obtain ⟨a, vs, rfl, t, r⟩ := r
  rcases t with ⟨_, t | ⟨o, t⟩⟩ | ⟨o, its, n, t1, t2, _⟩
  · exact .base (.tup t)
  · exact .fTuple t
  · exact .kTuple t1 t2
theorem tx_str {x : Str} : TxD K (.str x) Gs "str" := fun F H vx ob r => by
  cases (show vx = .str x from r)
  exact .base (.str x)
theorem tx_int {x : Int} : TxD K (.int x) Gs "int" := fun F H vx ob r => by
  cases (show vx = .int x from r)
  exact .base (.int x)
theorem tx_non : TxD K .non Gs "NoneType" := fun F H vx ob r => by
  cases (show vx = .non from r)
  exact .base .non
theorem isi_ {T : Str} {Ts : String} {p q1 : Pos} {j l : Nat} (B : Bd X P w K mg base sc N Vs GN k) (hm : mg "isinstance" = none) (hG : At GN j ("isinstance" : Str)) (hm2 : mg T = none) (hG2 : At GN l T) (hT : bootBuiltins T = some (.type Ts))
    (h : EvD X e σd Gs (fun d G => ∃ S b, TxD X.K d G S ∧ kitB S Ts = some b ∧ Q (.bl b) G) R)
    (he : starEach [e, .Name T q1] X.env = (false, eval e X.env) :: starEach [.Name T q1] X.env := by rfl) (he2 : starEach [.Name T q1] X.env = (false, eval (.Name T q1) X.env) :: starEach [] X.env := by rfl) (hpl : (backTo pos (starEach [.Name T q1] X.env)).any (·.1) = false := by rfl) :
    EvD X (.Call (.Name "isinstance" p) [e, .Name T q1] [] pos) σd Gs Q R := by
  obtain ⟨rfl, rfl, rfl, rfl, rfl, rfl, _, _, _, _, _, nm, _⟩ := B
  intro pn xe E F σ H wh hE ob sl
  obtain ⟨g1, g2, g3⟩ := nm.gl j _ hG.get
  obtain ⟨f1, f2, f3⟩ := nm.gl l _ hG2.get
  refine (pe_callB (X := X.tr pn xe) call_isi g1 hm (by decide +kernel) (pa_cons PE.self (pa_cons (pe_bltn (v := .ty Ts) f1 hm2 hT rfl f3 f2) pa_nil he2) he) g3 g2 he hpl).get ?_
  refine h.go wh hE Keep.refl ob sl fun v H1 d G1 ob1 k1 _ sl1 rv ⟨S, b, ht, hk, q⟩ => ?_
  exact ⟨v, .ty Ts, .type S, .type Ts, b, rfl, .ty _, ht F H1 v ob1 rv, kit_ty hk, Post.of (d := .bl b) ob1 k1 rfl q⟩
/-! ### enumerate, zip, range with a step -/
def enumL (ds : List D) : List D := ds.mapIdx fun i d => .tup [.int (i : Nat), d]
theorem enumL_len {ds : List D} : (enumL ds).length = ds.length := List.length_mapIdx ..
theorem enumL_get {ds : List D} {i : Nat} : (enumL ds)[i]? = ds[i]?.map fun d => .tup [.int (i : Nat), d] := List.getElem?_mapIdx ..
theorem pair_new {F : List Cell} {G : Pt} {H : Hp} {T : Addr} {x y : V} {d1 d2 : D} (ob : Ob K (tot G F) H) (hT : H T = none) (r1 : RD K (dm (tot G F)) H d1 x) (r2 : RD K (dm (tot G F)) H d2 y) :
    Ob K (tot G F) (L2.upd H T (.tup [x, y])) ∧ Keep (dm (tot G F)) H (dm (tot G F)) (L2.upd H T (.tup [x, y])) ∧ RD K (dm (tot G F)) (L2.upd H T (.tup [x, y])) (.tup [d1, d2]) (.ref T) := by
  have kp := Keep.newF (N := dm (tot G F)) (o := .tup [x, y]) hT
  exact ⟨ob.newF hT, kp, T, [x, y], rfl, .inl ⟨ob.mem_none hT, .inl upd_same⟩, x, _, rfl, RD.keep kp _ _ r1, y, _, rfl, RD.keep kp _ _ r2, rfl⟩
theorem jd_enum {F : List Cell} {G1 : Pt} {H1 : Hp} {a : Addr} {ds : List D} {stay : Pt → Prop} (h : ∀ G H (Fx : List Cell), Ob K (tot G (Fx ++ F)) H → Keep (dm (tot G1 F)) H1 (dm (tot G (Fx ++ F))) H → stay G → ∃ vs, SqL K H a vs ∧ RDs K (dm (tot G (Fx ++ F))) H ds vs) : JD K F G1 H1 stay (Ite K a) (enumL ds) := by
  intro i G H Fx ob kp st
  obtain ⟨vs, hq, r⟩ := h G H Fx ob kp st
  rw [enumL_get]
  refine ⟨fun d hd => ?_, fun hd => ⟨vs, hq, ?_⟩⟩
  · cases e : ds[i]? with
    | none => rw [e] at hd; cases hd
    | some d0 =>
      rw [e] at hd
      cases (Option.some.inj hd : _ = d)
      obtain ⟨v, hv, rv⟩ := r.get e
      refine ⟨⟨vs, v, hq, hv⟩, fun x H' ⟨T, y, e1, e2, e3, e4⟩ => ?_⟩
      subst e1 e3
      have e5 := e4 vs hq
      rw [hv] at e5
      cases e5
      exact pair_new ob e2 (d1 := .int i) rfl rv
  · rw [r.length]
    cases e : ds[i]? with
    | none => exact List.getElem?_eq_none_iff.mp e
    | some d0 => rw [e] at hd; cases hd
theorem it_enum {elts : List Expr} {kk j : Nat} {p tpos : Pos} {Q : List D → (Pt → Prop) → Pt → Prop} (B : Bd X P w K mg base sc N Vs GN k) (hm : mg "enumerate" = none) (hG : At GN j ("enumerate" : Str)) (h : EvD X e σd Gs (fun x G => ∃ ds, x = .lst ds ∧ Q (enumL ds) (fun _ => True) G) R)
    (hs : starEach [e] X.env = [(false, eval e X.env)] := by rfl) : ItE X (.Tuple elts kk tpos) (.Call (.Name "enumerate" p) [e] [] pos) σd Gs Q R := by
  obtain ⟨rfl, rfl, rfl, rfl, rfl, rfl, _, _, _, _, _, nm, _⟩ := B
  intro pn xe E F σ H wh hE ob sl
  obtain ⟨g1, g2, g3⟩ := nm.gl j _ hG.get
  refine (pi_enum (X := X.tr pn xe) g1 hm (pa_cons PE.self pa_nil hs) hs).get ?_
  refine h.go wh hE Keep.refl ob sl fun v H1 x G1 ob1 k1 _ sl1 rx ⟨ds, ex, q⟩ => ?_
  subst ex
  obtain ⟨a, vs, rfl, n, t, r⟩ := rx
  refine ⟨a, vs, rfl, .inl (.inl t), enumL ds, _, G1, ob1, k1, jd_enum fun G H' Fx ob' kp _ => ?_, q⟩
  obtain ⟨t', n'⟩ := kp a _ t n
  exact ⟨vs, .inl (.inl t'), RDs.keep kp _ _ r⟩
theorem it_enumO {elts : List Expr} {kk j : Nat} {p tpos : Pos} {Q : List D → (Pt → Prop) → Pt → Prop} (B : Bd X P w K mg base sc N Vs GN k) (hm : mg "enumerate" = none) (hG : At GN j ("enumerate" : Str)) (h : EvD X e σd Gs (fun x G => ∃ q ds, x = .ref q ∧ Has G q (.lst ds) ∧ Q (enumL ds) (fun G' => Has G' q (.lst ds)) G) R)
    (hs : starEach [e] X.env = [(false, eval e X.env)] := by rfl) : ItE X (.Tuple elts kk tpos) (.Call (.Name "enumerate" p) [e] [] pos) σd Gs Q R := by
  obtain ⟨rfl, rfl, rfl, rfl, rfl, rfl, _, _, _, _, _, nm, _⟩ := B
  intro pn xe E F σ H wh hE ob sl
  obtain ⟨g1, g2, g3⟩ := nm.gl j _ hG.get
  refine (pi_enum (X := X.tr pn xe) g1 hm (pa_cons PE.self pa_nil hs) hs).get ?_
  refine h.go wh hE Keep.refl ob sl fun v H1 x G1 ob1 k1 _ sl1 rx ⟨q, ds, ex, hq, qq⟩ => ?_
  subst ex
  cases (show v = .ref q from rx)
  obtain ⟨o, e, vs, rfl, r⟩ := ob1.get hq
  refine ⟨q, vs, rfl, .inl (.inl e), enumL ds, _, G1, ob1, k1, jd_enum fun G H' Fx ob' kp st => ?_, qq⟩
  obtain ⟨o, e, vs, rfl, r⟩ := ob'.get st
  exact ⟨vs, .inl (.inl e), r⟩
def rngC (lo c : Int) (n : Nat) : List D := (List.range n).map fun i => .int (lo + (i : Nat) * c)
theorem jd_rngC {F : List Cell} {G1 : Pt} {H1 : Hp} {lo c : Int} {n : Nat} {stay : Pt → Prop} : JD K F G1 H1 stay (Itc lo c n) (rngC lo c n) := by
  intro i G H Fx ob kp st
  unfold rngC
  refine ⟨fun d hd => ?_, fun hd => ?_⟩
  · obtain ⟨j, hj, rfl⟩ := map_get hd
    obtain ⟨hi, ej⟩ := List.getElem?_eq_some_iff.mp hj
    rw [List.getElem_range] at ej
    subst ej
    rw [List.length_range] at hi
    exact ⟨hi, fun x H' ⟨e1, e2⟩ => by subst e1 e2; exact ⟨ob, Keep.refl, rfl⟩⟩
  · have h := List.getElem?_eq_none_iff.mp hd
    rw [List.length_map, List.length_range] at h
    exact h
theorem rgC_up {m c : Int} (h0 : 0 ≤ m) (h1 : m < 2 ^ 32) (c1 : 1 ≤ c) (c2 : c < 2 ^ 16) : RgC 0 m c ((m + c - 1) / c).toNat := by
  have e := rangeSize_pos (len := m) (c := c) c1 h0
  have hd : 0 ≤ (m + c - 1) / c := Int.ediv_nonneg (by omega) (by omega)
  have hu : (m + c - 1) / c ≤ m + c - 1 := Int.ediv_le_self _ (by omega)
  refine ⟨by omega, by omega, ?_, by rw [e, Int.toNat_of_nonneg hd]⟩
  unfold Builtin.Range.small
  rw [e, if_pos (by omega)]
  simp only [Builtin.Range.rangeFitsLong, Bool.and_eq_true, Bool.or_eq_true, decide_eq_true_eq, beq_iff_eq]
  refine ⟨⟨⟨⟨?_, ?_⟩, ?_⟩, ?_⟩, .inr ?_⟩ <;> omega
theorem it_rngC {j : Nat} {p : Pos} {Q : List D → (Pt → Prop) → Pt → Prop} (B : Bd X P w K mg base sc N Vs GN k) (hm : mg "range" = none) (hG : At GN j ("range" : Str))
    (h : EvA X [a, b, c] σd Gs (fun ds G => ∃ (m c : Int), ds = [.int 0, .int m, .int c] ∧ 0 ≤ m ∧ m < 2 ^ 32 ∧ 1 ≤ c ∧ c < 2 ^ 16 ∧ Q (rngC 0 c ((m + c - 1) / c).toNat) (fun _ => True) G) R)
    (hs : starEach [a, b, c] X.env = (false, eval a X.env) :: starEach [b, c] X.env := by rfl) (hpl : (backTo pos (starEach [b, c] X.env)).any (·.1) = false := by rfl) : ItE X tg (.Call (.Name "range" p) [a, b, c] [] pos) σd Gs Q R := by
  obtain ⟨rfl, rfl, rfl, rfl, rfl, rfl, _, _, _, _, _, nm, _⟩ := B
  intro pn xe E F σ H wh hE ob sl
  obtain ⟨g1, g2, g3⟩ := nm.gl j _ hG.get
  refine (pi_range3 (X := X.tr pn xe) g1 hm PA.self hs hpl).get ?_
  refine h.go wh hE Keep.refl ob sl fun v H1 x G1 ob1 k1 _ sl1 rx ⟨m, c, ex, h0, h1, c1, c2, q⟩ => ?_
  subst ex
  obtain ⟨_, _, rfl, rfl, _, _, rfl, rfl, _, _, rfl, rfl, rfl⟩ := rx
  exact ⟨0, m, c, _, rfl, rgC_up h0 h1 c1 c2, _, _, G1, ob1, k1, jd_rngC, q⟩
end
end Dl
namespace Dl
open PySem PySem.Spec PyProof.Rows L2
section
variable {X : Cx} {P : Program} {w : World} {K : PySem.W.Frag} {mg : Str → Option Value} {base : Heap} {sc : Scope} {N : List Str} {Vs : List Nat} {GN : List Str} {k : Nat}
variable {σd : Sd} {Gs : Pt} {Q : QD} {R : RX} {e a b c o tg iter elt : Expr} {es : List Expr} {pos p2 apos cpos : Pos} {sts : List Stmt}
variable {nx bk ct : Sd → Pt → Prop} {rt : QD} {ex : RX}

/-! ### comprehensions that change nothing -/
abbrev dCh (c : Nat) : D := .str (S [c])
abbrev dNat (c : Nat) : D := .int (c : Int)
abbrev dSt (l : List Nat) : D := .str (S l)
/-- one turn: the element is y -/
def E1 (P : Program) (w : World) (K : PySem.W.Frag) (mg : Str → Option Value) (base : Heap) (scb : Scope) (N : List Str) (V' : List Nat) (GN' : List Str) (k : Nat) (elt : Expr) (j : Nat) (σd : Sd) (d y : D) (G : Pt) : Prop :=
  ∃ σ', SetAt σd j (some d) σ' ∧ ∀ Y, Bd Y P w K mg base scb N V' GN' k → EvD Y elt σ' G (fun z G4 => z = y ∧ G4 = G) R0
/-- .. with a test -/
def F1 (P : Program) (w : World) (K : PySem.W.Frag) (mg : Str → Option Value) (base : Heap) (scb : Scope) (N : List Str) (V' : List Nat) (GN' : List Str) (k : Nat) (cnd : Expr) (j : Nat) (σd : Sd) (d : D) (t : Bool) (G : Pt) : Prop :=
  ∃ σ', SetAt σd j (some d) σ' ∧ ∀ Y, Bd Y P w K mg base scb N V' GN' k → EvT Y cnd σ' G (fun z G4 => z = t ∧ G4 = G) R0
theorem take_map_one {α : Type} {g : α → D} {l : List α} {i : Nat} {x : α} (h : l[i]? = some x) : (l.take i).map g ++ [g x] = (l.take (i + 1)).map g := by
  rw [take_one h, List.map_append]
  rfl
theorem SetAt.uniq {α : Type} {l l1 l2 : List α} {i : Nat} {x : α} (h : SetAt l i x l1) (g : SetAt l i x l2) : l1 = l2 := h.eq.symm.trans g.eq
theorem mJ_ {α : Type} {f g : α → D} {x : Expr} {scope : Scope} {V' : List Nat} {GN' : List Str} {j : Nat} {Z : List D → Pt → Prop}
    (h : ItE X x iter σd Gs (fun ds stay G1 => ∃ l : List α, ds = l.map f ∧ stay G1 ∧ l.length ≤ sizeLine ∧ (∀ (i : Nat) (z : α), l[i]? = some z → E1 P w K mg base (relS scope sc) N V' GN' k elt j σd (f z) (g z) G1) ∧ Z (l.map g) G1) R) :
    ItE X x iter σd Gs (fun ds stay G1 => ∃ J : Nat → List D → Pt → Prop, J 0 [] G1 ∧ (∀ i d acc G', ds[i]? = some d → J i acc G' → stay G' ∧ T1 P w K mg base (relS scope sc) N V' GN' k elt [] j σd d acc G' (J (i + 1)) (J (i + 1) acc)) ∧ (∀ acc G', J ds.length acc G' → stay G' ∧ Z acc G')) R := by
  intro pn xe E F σ H wh hE ob sl
  refine semPI_imp (h pn xe E F σ H wh hE ob sl) fun Jt H1 ⟨ds, stay, G1, a1, a2, a3, l, ed, st, hz, turn, q⟩ => ⟨ds, stay, G1, a1, a2, a3, ?_⟩
  subst ed
  refine ⟨fun i acc G => acc = (l.take i).map g ∧ G = G1, ⟨rfl, rfl⟩, fun i d acc G' hd hJ => ?_, fun acc G' hJ => ?_⟩
  · obtain ⟨e1, e2⟩ := hJ
    subst e1 e2
    obtain ⟨z, hz', rfl⟩ := map_get hd
    refine ⟨st, ?_⟩
    obtain ⟨σ', s1, s2⟩ := turn i z hz'
    refine ⟨σ', s1, fun Y BY => EvD.imp (s2 Y BY) fun y G4 ⟨ey, eG⟩ => ?_⟩
    subst ey eG
    have hi := (List.getElem?_eq_some_iff.mp hz').1
    exact ⟨by rw [List.length_map, List.length_take]; omega, take_map_one hz', rfl⟩
  · obtain ⟨e1, e2⟩ := hJ
    subst e1 e2
    rw [List.length_map, List.take_length]
    exact ⟨st, q⟩
theorem fJ_ {α : Type} {f g : α → D} {p : α → Bool} {x : Expr} {cnd : Expr} {scope : Scope} {V' : List Nat} {GN' : List Str} {j : Nat} {Z : List D → Pt → Prop}
    (h : ItE X x iter σd Gs (fun ds stay G1 => ∃ l : List α, ds = l.map f ∧ stay G1 ∧ l.length ≤ sizeLine ∧ (∀ (i : Nat) (z : α), l[i]? = some z → F1 P w K mg base (relS scope sc) N V' GN' k cnd j σd (f z) (p z) G1) ∧ (∀ (i : Nat) (z : α), l[i]? = some z → p z = true → E1 P w K mg base (relS scope sc) N V' GN' k elt j σd (f z) (g z) G1) ∧ Z ((l.filter p).map g) G1) R) :
    ItE X x iter σd Gs (fun ds stay G1 => ∃ J : Nat → List D → Pt → Prop, J 0 [] G1 ∧ (∀ i d acc G', ds[i]? = some d → J i acc G' → stay G' ∧ T1 P w K mg base (relS scope sc) N V' GN' k elt [cnd] j σd d acc G' (J (i + 1)) (J (i + 1) acc)) ∧ (∀ acc G', J ds.length acc G' → stay G' ∧ Z acc G')) R := by
  intro pn xe E F σ H wh hE ob sl
  refine semPI_imp (h pn xe E F σ H wh hE ob sl) fun Jt H1 ⟨ds, stay, G1, a1, a2, a3, l, ed, st, hz, test, turn, q⟩ => ⟨ds, stay, G1, a1, a2, a3, ?_⟩
  subst ed
  refine ⟨fun i acc G => acc = ((l.take i).filter p).map g ∧ G = G1, ⟨rfl, rfl⟩, fun i d acc G' hd hJ => ?_, fun acc G' hJ => ?_⟩
  · obtain ⟨e1, e2⟩ := hJ
    subst e1 e2
    obtain ⟨z, hz', rfl⟩ := map_get hd
    refine ⟨st, ?_⟩
    obtain ⟨σ1, t1, t2⟩ := test i z hz'
    have hi := (List.getElem?_eq_some_iff.mp hz').1
    have hlen : (((l.take i).filter p).map g).length < sizeLine := by
      have := List.length_filter_le p (l.take i)
      rw [List.length_map]
      rw [List.length_take] at this
      omega
    refine ⟨σ1, t1, fun Y BY => EvT.imp (t2 Y BY) fun t G3 ⟨et, eG⟩ => ?_⟩
    subst et eG
    refine ⟨fun hp Z BZ => ?_, fun hp => ⟨?_, rfl⟩⟩
    · obtain ⟨σ', s1, s2⟩ := turn i z hz' hp
      cases t1.uniq s1
      refine EvD.imp (s2 Z BZ) fun y G4 ⟨ey, eG⟩ => ?_
      subst ey eG
      exact ⟨hlen, by rw [take_one hz', List.filter_append, List.map_append, List.filter_cons_of_pos hp]; rfl, rfl⟩
    · rw [take_one hz', List.filter_append, List.filter_cons_of_neg (by rw [hp]; exact Bool.false_ne_true)]
      simp
  · obtain ⟨e1, e2⟩ := hJ
    subst e1 e2
    rw [List.length_map, List.take_length]
    exact ⟨st, q⟩
theorem lcm_ {α : Type} (f g : α → D) {x : Str} {px : Pos} {scope : Scope} {j : Nat} (own : List (Str × Nat)) (V' : List Nat) (GN' : List Str) (hown : own = [(x, j)]) (B : Bd X P w K mg base sc N Vs GN k) (hN : At N j x) (hV : V'[j]? = some 2) (hb : blkC N sc scope own = true) (hn : blkNC scope sc N V' GN' = true)
    (h : ItE X (.Name x px) iter σd Gs (fun ds stay G1 => ∃ l : List α, ds = l.map f ∧ stay G1 ∧ l.length ≤ sizeLine ∧ (∀ (i : Nat) (z : α), l[i]? = some z → E1 P w K mg base (relS scope sc) N V' GN' k elt j σd (f z) (g z) G1) ∧ Q (.lst (l.map g)) G1) R)
    (hs : ∀ x, foldedSetIterable iter X.env x = pure x := by intro _; rfl) : EvD X (.ListComp elt [⟨.Name x px, iter, [], 0⟩] scope pos) σd Gs Q R :=
  lc_ own V' GN' hown B hN hV hb hn (mJ_ (Z := fun acc G => Q (.lst acc) G) h) hs
theorem slcm_ {α : Type} (f g : α → D) {x y : Str} {px py spos : Pos} {scope : Scope} {i j : Nat} (own : List (Str × Nat)) (V' : List Nat) (GN' : List Str) (hown : own = [(x, j)]) (B : Bd X P w K mg base sc N Vs GN k) (hNy : At N i y) (hN : At N j x) (hV : V'[j]? = some 2) (hyl : sc.names.lookup y = some .local) (hk : sc.kind = .function)
    (hl : (py.line == pos.line) = true) (hsw : (scope.names.any fun (n, k) => n == y && (k == .local || k == .cell)) = false) (hb : blkC N sc scope own = true) (hn : blkNC scope sc N V' GN' = true)
    (h : ItE X (.Name x px) iter σd Gs (fun ds stay G1 => ∃ l : List α, ds = l.map f ∧ stay G1 ∧ l.length ≤ sizeLine ∧ (∀ (i : Nat) (z : α), l[i]? = some z → E1 P w K mg base (relS scope sc) N V' GN' k elt j σd (f z) (g z) G1) ∧ ∃ σ', SetAt σd i (some (.lst (l.map g))) σ' ∧ nx σ' G1) ex)
    (hs : ∀ x, foldedSetIterable iter X.env x = pure x := by intro _; rfl) : StD X (.Assign [.Name y py] (.ListComp elt [⟨.Name x px, iter, [], 0⟩] scope pos) spos) σd Gs ⟨nx, rt, bk, ct, ex⟩ :=
  slc1_ own V' GN' hown B hNy hN hV hyl hk hl hsw hb hn (mJ_ (Z := fun acc G => ∃ σ', SetAt σd i (some (.lst acc)) σ' ∧ nx σ' G) h) hs
theorem lcf_ {α : Type} (f g : α → D) (p : α → Bool) {x : Str} {px : Pos} {cnd : Expr} {scope : Scope} {j : Nat} (own : List (Str × Nat)) (V' : List Nat) (GN' : List Str) (hown : own = [(x, j)]) (B : Bd X P w K mg base sc N Vs GN k) (hN : At N j x) (hV : V'[j]? = some 2) (hb : blkC N sc scope own = true) (hn : blkNC scope sc N V' GN' = true)
    (h : ItE X (.Name x px) iter σd Gs (fun ds stay G1 => ∃ l : List α, ds = l.map f ∧ stay G1 ∧ l.length ≤ sizeLine ∧ (∀ (i : Nat) (z : α), l[i]? = some z → F1 P w K mg base (relS scope sc) N V' GN' k cnd j σd (f z) (p z) G1) ∧ (∀ (i : Nat) (z : α), l[i]? = some z → p z = true → E1 P w K mg base (relS scope sc) N V' GN' k elt j σd (f z) (g z) G1) ∧ Q (.lst ((l.filter p).map g)) G1) R)
    (hs : ∀ x, foldedSetIterable iter X.env x = pure x := by intro _; rfl) : EvD X (.ListComp elt [⟨.Name x px, iter, [cnd], 0⟩] scope pos) σd Gs Q R :=
  lc_ own V' GN' hown B hN hV hb hn (fJ_ (Z := fun acc G => Q (.lst acc) G) h) hs
theorem slcf_ {α : Type} (f g : α → D) (p : α → Bool) {x y : Str} {px py spos : Pos} {cnd : Expr} {scope : Scope} {i j : Nat} (own : List (Str × Nat)) (V' : List Nat) (GN' : List Str) (hown : own = [(x, j)]) (B : Bd X P w K mg base sc N Vs GN k) (hNy : At N i y) (hN : At N j x) (hV : V'[j]? = some 2) (hyl : sc.names.lookup y = some .local) (hk : sc.kind = .function)
    (hl : (py.line == pos.line) = true) (hsw : (scope.names.any fun (n, k) => n == y && (k == .local || k == .cell)) = false) (hb : blkC N sc scope own = true) (hn : blkNC scope sc N V' GN' = true)
    (h : ItE X (.Name x px) iter σd Gs (fun ds stay G1 => ∃ l : List α, ds = l.map f ∧ stay G1 ∧ l.length ≤ sizeLine ∧ (∀ (i : Nat) (z : α), l[i]? = some z → F1 P w K mg base (relS scope sc) N V' GN' k cnd j σd (f z) (p z) G1) ∧ (∀ (i : Nat) (z : α), l[i]? = some z → p z = true → E1 P w K mg base (relS scope sc) N V' GN' k elt j σd (f z) (g z) G1) ∧ ∃ σ', SetAt σd i (some (.lst ((l.filter p).map g))) σ' ∧ nx σ' G1) ex)
    (hs : ∀ x, foldedSetIterable iter X.env x = pure x := by intro _; rfl) : StD X (.Assign [.Name y py] (.ListComp elt [⟨.Name x px, iter, [cnd], 0⟩] scope pos) spos) σd Gs ⟨nx, rt, bk, ct, ex⟩ :=
  slc1_ own V' GN' hown B hNy hN hV hyl hk hl hsw hb hn (fJ_ (Z := fun acc G => ∃ σ', SetAt σd i (some (.lst acc)) σ' ∧ nx σ' G) h) hs
theorem e1_ {d y : D} {G : Pt} {scb : Scope} {V' : List Nat} {GN' : List Str} {j : Nat} {σ' : Sd} (hs : SetAt σd j (some d) σ') (h : ∀ Y, Bd Y P w K mg base scb N V' GN' k → EvD Y elt σ' G (fun z G4 => z = y ∧ G4 = G) R0) : E1 P w K mg base scb N V' GN' k elt j σd d y G := ⟨σ', hs, h⟩
theorem f1_ {d : D} {t : Bool} {G : Pt} {scb : Scope} {V' : List Nat} {GN' : List Str} {j : Nat} {σ' : Sd} (hs : SetAt σd j (some d) σ') (h : ∀ Y, Bd Y P w K mg base scb N V' GN' k → EvT Y elt σ' G (fun z G4 => z = t ∧ G4 = G) R0) : F1 P w K mg base scb N V' GN' k elt j σd d t G := ⟨σ', hs, h⟩
/-- .. two names -/
def E2 (P : Program) (w : World) (K : PySem.W.Frag) (mg : Str → Option Value) (base : Heap) (scb : Scope) (N : List Str) (V' : List Nat) (GN' : List Str) (k : Nat) (elt : Expr) (j l : Nat) (σd : Sd) (d1 d2 y : D) (G : Pt) : Prop :=
  ∃ σ1 σ', SetAt σd j (some d1) σ1 ∧ SetAt σ1 l (some d2) σ' ∧ ∀ Y, Bd Y P w K mg base scb N V' GN' k → EvD Y elt σ' G (fun z G4 => z = y ∧ G4 = G) R0
theorem e2_ {d1 d2 y : D} {G : Pt} {scb : Scope} {V' : List Nat} {GN' : List Str} {j l : Nat} {σ1 σ' : Sd} (h1 : SetAt σd j (some d1) σ1) (h2 : SetAt σ1 l (some d2) σ') (h : ∀ Y, Bd Y P w K mg base scb N V' GN' k → EvD Y elt σ' G (fun z G4 => z = y ∧ G4 = G) R0) : E2 P w K mg base scb N V' GN' k elt j l σd d1 d2 y G := ⟨σ1, σ', h1, h2, h⟩
theorem wipe2_set {σ : Sd} {j l : Nat} {d1 d2 : Option D} (hjl : j ≠ l) : (((wipeD σ [j, l]).set j d1).set l d2) = (σ.set j d1).set l d2 := by
  have e : wipeD σ [j, l] = (σ.set l none).set j none := rfl
  rw [e, List.set_set, List.set_comm (l := σ) none d1 (Ne.symm hjl), List.set_set]
theorem lcm2_ {α : Type} (f1 f2 g : α → D) {x y : Str} {px py tp : Pos} {kk : Nat} {scope : Scope} {j l : Nat} (own : List (Str × Nat)) (V' : List Nat) (GN' : List Str) (hown : own = [(x, j), (y, l)]) (B : Bd X P w K mg base sc N Vs GN k) (hN : At N j x) (hN2 : At N l y) (hV : V'[j]? = some 2) (hV2 : V'[l]? = some 2) (hjl : j ≠ l) (hb : blkC N sc scope own = true) (hn : blkNC scope sc N V' GN' = true)
    (h : ItE X (.Tuple [.Name x px, .Name y py] kk tp) iter σd Gs (fun ds stay G1 => ∃ l0 : List α, ds = l0.map (fun z => .tup [f1 z, f2 z]) ∧ stay G1 ∧ l0.length ≤ sizeLine ∧ (∀ (i : Nat) (z : α), l0[i]? = some z → E2 P w K mg base (relS scope sc) N V' GN' k elt j l σd (f1 z) (f2 z) (g z) G1) ∧ Q (.lst (l0.map g)) G1) R)
    (hs : ∀ x, foldedSetIterable iter X.env x = pure x := by intro _; rfl) : EvD X (.ListComp elt [⟨.Tuple [.Name x px, .Name y py] kk tp, iter, [], 0⟩] scope pos) σd Gs Q R := by
  subst hown
  refine e_lc B hb hn (ctg_tup B hn hN.get hV (by simp) hN2.get hV2 (by simp)) ?_ hs
  intro pn xe E F σ H wh hE ob sl
  refine semPI_imp (h pn xe E F σ H wh hE ob sl) fun Jt H1 ⟨ds, stay, G1, a1, a2, a3, l0, ed, st, hz, turn, q⟩ => ⟨ds, stay, G1, a1, a2, a3, ?_⟩
  subst ed
  obtain ⟨I, i0, it, id⟩ := lci_ (ds := l0.map fun z => D.tup [f1 z, f2 z]) (stay := stay) (G1 := G1) (Q := Q) (T := fun d acc G' A _ => (∃ a b, d = .tup [a, b]) ∧ ∀ Y, Bd Y P w K mg base (relS scope sc) N V' GN' k → EvD Y elt (put2 j l (wipeD σd [j, l]) d) G' (fun y G4 => acc.length < sizeLine ∧ A (acc ++ [y]) G4) R0)
    (fun i acc G => acc = (l0.take i).map g ∧ G = G1) ⟨rfl, rfl⟩ (fun d acc G A A' B0 B' ⟨t1, t2⟩ ha hb => ⟨t1, fun Y BY => EvD.imp (t2 Y BY) fun y G4 ⟨z, q⟩ => ⟨z, ha _ _ q⟩⟩) (by
      intro i d acc G' hd ⟨e1, e2⟩
      subst e1 e2
      obtain ⟨z, hz', rfl⟩ := map_get hd
      refine ⟨st, ⟨_, _, rfl⟩, fun Y BY => ?_⟩
      obtain ⟨σ1, σ', s1, s2, s3⟩ := turn i z hz'
      have es : put2 j l (wipeD σd [j, l]) (.tup [f1 z, f2 z]) = σ' := by
        show (((wipeD σd [j, l]).set j _).set l _) = σ'
        rw [wipe2_set hjl, s1.eq, s2.eq]
      rw [es]
      refine EvD.imp (s3 Y BY) fun y G4 ⟨ey, eG⟩ => ?_
      subst ey eG
      have hi := (List.getElem?_eq_some_iff.mp hz').1
      exact ⟨by rw [List.length_map, List.length_take]; omega, take_map_one hz', rfl⟩) (by
      intro acc G' ⟨e1, e2⟩
      subst e1 e2
      rw [List.length_map, List.take_length]
      exact ⟨st, q⟩)
  refine ⟨I, i0, fun d r acc G' hI => ?_, id⟩
  obtain ⟨hs, t1, t2⟩ := it d r acc G' hI
  exact ⟨hs, t1, fun Y BY => ⟨fun _ Z BZ => t2 Z BZ, fun z => nomatch z⟩⟩
theorem sw_cell {el : Expr} {gs : List Comprehension} {scope : Scope} {pos py : Pos} {y : Str} {l : Nat} {env : Env} (hy : env.scope.names.lookup y = some .cell) : swapsWith (.ListComp el gs scope pos) (some (.Name y py)) l env = pure false := by
  have ky : env.kindOf y = some .cell := hy
  unfold swapsWith
  simp only [ky]
  have e : ((some NameKind.cell : Option NameKind) == some NameKind.local) = false := rfl
  rw [e, Bool.and_false, Bool.false_and, Bool.false_and]
/-- name = [..], the name read in a block within -/
theorem ssetC_ {i : Nat} {y : Str} {py spos : Pos} {gs : List Comprehension} {scope : Scope} (B : Bd X P w K mg base sc N Vs GN k) (hN : At N i y) (hV : Vs[i]? = some 2) (hc : sc.names.lookup y = some .cell)
    (h : EvD X (.ListComp elt gs scope pos) σd Gs (fun d G => ∃ σ', SetAt σd i (some d) σ' ∧ nx σ' G) ex) : StD X (.Assign [.Name y py] (.ListComp elt gs scope pos) spos) σd Gs ⟨nx, rt, bk, ct, ex⟩ :=
  sset_ B hN hV h (hs := sw_cell (by rw [B.eS]; exact hc))
theorem Sb.tl {P1 : List Cell} {G : Pt} : Sb G (P1 :: G) := Sb.drop (Ps := [P1])
/-! ### calls: exceptions, parts that are changed, parts that are new -/
theorem Wx.re {F : List Cell} {G0 : Pt} {H0 : Hp} {R0 : RX} {c : Value} {od : Option Addr} {H' : Hp} (h : Wx K F G0 H0 R0 c od H') (k : ∀ C fs G, R0 C fs G → ∃ G', Sb G' G ∧ R C fs G') : Wx K F G0 H0 R c od H' := by
  obtain ⟨C, fs, G, e, ob, kp, xr, r⟩ := h
  obtain ⟨G', sb, r'⟩ := k C fs G r
  obtain ⟨k1, ob'⟩ := ob.re sb
  exact ⟨C, fs, G', e, ob', kp.trans (Keep.self k1), xr.keep (Keep.self k1), r'⟩
structure Tk2 (sp : SpD) (ds : List D) (G : Pt) (Q : QD) (R : RX) (Ps Rest : Pt) (Qd : QD) (Rd : RX) : Prop where
  pk : Pick G Ps Rest
  sp : sp ds Ps Qd Rd
  ok : ∀ d Ps', Qd d Ps' → ∃ G', Sb G' (Ps' ++ Rest) ∧ Q d G'
  no : ∀ C fs Ps', Rd C fs Ps' → ∃ G', Sb G' (Ps' ++ Rest) ∧ R C fs G'
theorem run_tk2 {F : List Cell} {H H1 : Hp} {G1 Ps Rest : Pt} {Qd : QD} {Rd : RX} {sp : SpD} {ds : List D} {vs : List V} {n : Nat} {E : XK} (hn : ds.length = n) (hE : ∀ c od H', Wx K F Gs H R c od H' → E c od H') (ob1 : Ob K (tot G1 F) H1) (k1 : Keep (dm (tot Gs F)) H (dm (tot G1 F)) H1)
    (rs : RDs K (dm (tot G1 F)) H1 ds vs) (t : Tk2 sp ds G1 Q R Ps Rest Qd Rd) : toSp K n sp vs H1 (Post K F Gs H Q) E :=
  run_tk (Gs := Gs) (Q := Q) (R := fun C fs G => ∃ G', Sb G' G ∧ R C fs G') (Rd := Rd) hn (fun c od H' wx => hE c od H' (wx.re fun _ _ _ z => z)) ob1 k1 rs ⟨t.pk, t.sp, t.ok, fun C fs Ps' z => t.no C fs Ps' z⟩
/-- a def that may raise, or changes cells and makes new ones -/
def CalX (P : Program) (w : World) (K : PySem.W.Frag) (mg : Str → Option Value) (base : Heap) (j : Nat) (x : Str) (n : Nat) (sp : SpD) : Prop := Dl.Cal P w K mg base j x n sp
theorem callX_ {x : Str} {p : Pos} {j i n : Nat} {sp : SpD} (B : Bd X P w K mg base sc N Vs GN k) (c : CalX P w K mg base j x n sp) (hG : At GN i x) (hj : j ≤ k)
    (h : EvA X (e :: es) σd Gs (fun ds G => ds.length = n ∧ ∃ Ps Rest Qd Rd, Tk2 sp ds G Q R Ps Rest Qd Rd) R)
    (he : starEach (e :: es) X.env = (false, eval e X.env) :: starEach es X.env := by rfl) (hpl : (backTo pos (starEach es X.env)).any (·.1) = false := by rfl) : EvD X (.Call (.Name x p) (e :: es) [] pos) σd Gs Q R := by
  obtain ⟨f, fd, ps, Fk, hm, hk, hb⟩ := c
  obtain ⟨rfl, rfl, rfl, rfl, rfl, rfl, _, _, _, room, gd, nm, _⟩ := B
  intro pn xe E F σ H wh hE ob sl
  obtain ⟨g1, g2, g3⟩ := nm.gl i x hG.get
  refine (pe_ref (X := X.tr pn xe) semC_self g1 hm hk PA.self g2 he hpl).get ?_
  refine h.go wh hE Keep.refl ob sl fun vs H1 ds G1 ob1 k1 _ sl1 rs ⟨hn, Ps, Rest, Qd, Rd, tk⟩ => ?_
  refine sem_fn (X := X.tr pn xe) (dvs := []) Fk room hj gd hb .nil (passes_call wh.tk fun _ _ _ _ z => z) ?_
  rw [List.append_nil]
  exact run_tk2 hn hE ob1 k1 rs tk
theorem methX_ {m : Str} {C : Addr} {ns : List Str} {j n : Nat} {sp : SpD} {pl : Sem Bool} (B : Bd X P w K mg base sc N Vs GN k) (T : ClsI K C ns) (c : CalM P w K mg base j C ns m n sp) (hj : j ≤ k)
    (h : EvD X o σd Gs (fun x G1 => (∀ F H vx, Ob X.K (tot G1 F) H → RD X.K (dm (tot G1 F)) H x vx → ∃ a dx vs, vx = .ref a ∧ H a = some (.ins C dx (ns.zip vs))) ∧
      EvA X (e :: es) σd G1 (fun ds G => ds.length + 1 = n ∧ ∃ Ps Rest Qd Rd, Tk2 sp (x :: ds) G Q R Ps Rest Qd Rd) R) R)
    (hst : starEach (e :: es) X.env = (false, eval e X.env) :: starEach es X.env := by rfl) (hpl : (backTo pos (starEach es X.env)).any (·.1) = false := by rfl)
    (ht : eval (.Call (.Attribute o m apos) (e :: es) [] pos) X.env = (do
      let ov ← eval o X.env
      standAt apos.atName
      let (f, first) ← holding [ov] (getMethod ov m pl)
      callWith pos f first (backTo pos (starEach (e :: es) X.env)) (backToKw pos (keywordEach [] X.env))) := by rfl) : EvD X (.Call (.Attribute o m apos) (e :: es) [] pos) σd Gs Q R := by
  obtain ⟨f, fd, ps, Fk, hm, hb, hno⟩ := c
  obtain ⟨rfl, rfl, rfl, rfl, rfl, rfl, _, _, _, room, gd, nm, _⟩ := B
  intro pn xe E F σ H wh hE ob sl
  refine (pe_mref (X := X.tr pn xe) (pl := pl) semC_self PE.self T.cl hm PA.self hst hpl ht).get ?_
  refine h.go wh hE Keep.refl ob sl fun v H1 x G1 ob1 k1 _ sl1 rx ⟨hin, h1⟩ => ?_
  obtain ⟨a, dx, vs0, rfl, ha⟩ := hin F H1 v ob1 rx
  refine ⟨a, dx, _, rfl, ha, lookup_none hno, ?_⟩
  refine h1.go wh hE k1 ob1 sl1 fun vs H2 ds G2 ob2 k2 k12 sl2 rs ⟨hn, Ps, Rest, Qd, Rd, tk⟩ => ?_
  refine sem_fn (X := X.tr pn xe) (dvs := []) Fk room hj gd hb .nil (passes_call wh.tk fun _ _ _ _ z => z) ?_
  rw [List.append_nil]
  exact run_tk2 (ds := x :: ds) hn hE ob2 k2 ⟨_, _, rfl, RD.keep k12 _ _ rx, rs⟩ tk
theorem methX0_ {m : Str} {C : Addr} {ns : List Str} {j n : Nat} {sp : SpD} {pl : Sem Bool} (B : Bd X P w K mg base sc N Vs GN k) (T : ClsI K C ns) (c : CalM P w K mg base j C ns m n sp) (hj : j ≤ k)
    (h : EvD X o σd Gs (fun x G => (∀ F H vx, Ob X.K (tot G F) H → RD X.K (dm (tot G F)) H x vx → ∃ a dx vs, vx = .ref a ∧ H a = some (.ins C dx (ns.zip vs))) ∧
      1 = n ∧ ∃ Ps Rest Qd Rd, Tk2 sp [x] G Q R Ps Rest Qd Rd) R)
    (ht : eval (.Call (.Attribute o m apos) [] [] pos) X.env = (do
      let ov ← eval o X.env
      standAt apos.atName
      let (f, first) ← holding [ov] (getMethod ov m pl)
      callWith pos f first (backTo pos (starEach [] X.env)) (backToKw pos (keywordEach [] X.env))) := by rfl) : EvD X (.Call (.Attribute o m apos) [] [] pos) σd Gs Q R := by
  obtain ⟨f, fd, ps, Fk, hm, hb, hno⟩ := c
  obtain ⟨rfl, rfl, rfl, rfl, rfl, rfl, _, _, _, room, gd, nm, _⟩ := B
  intro pn xe E F σ H wh hE ob sl
  refine (pe_mref0 (X := X.tr pn xe) (pl := pl) semC_self PE.self T.cl hm ht).get ?_
  refine h.go wh hE Keep.refl ob sl fun v H1 x G1 ob1 k1 _ sl1 rx ⟨hin, hn, Ps, Rest, Qd, Rd, tk⟩ => ?_
  obtain ⟨a, dx, vs0, rfl, ha⟩ := hin F H1 v ob1 rx
  refine ⟨a, dx, _, rfl, ha, lookup_none hno, ?_⟩
  refine sem_fn (X := X.tr pn xe) (dvs := []) Fk room hj gd hb .nil (passes_call wh.tk fun _ _ _ _ z => z) ?_
  exact run_tk2 (ds := [x]) hn hE ob1 k1 ⟨_, _, rfl, rx, rfl⟩ tk
/-- one part is handed over; it comes back changed, new ones ahead of it -/
theorem tk2_spotN {sp : SpD} {ds : List D} {G : Pt} {P1 : List Cell} {f : List Cell → Pt} (s : Spot G P1 f) (h : sp ds [P1] (fun d Ps' => ∃ P' Pn, Ps' = Pn ++ [P'] ∧ Q d (Pn ++ f P')) (fun C fs Ps' => ∃ P', Ps' = [P'] ∧ R C fs (f P'))) : ∃ Ps Rest Qd Rd, Tk2 sp ds G Q R Ps Rest Qd Rd := by
  obtain ⟨Rest, t, pm⟩ := s.take
  refine ⟨[P1], Rest, _, _, .cons t .nil, h, fun d Ps' ⟨P', Pn, e, q⟩ => ⟨Pn ++ f P', Sb.per ?_, q⟩, fun C fs Ps' ⟨P', e, q⟩ => ⟨f P', Sb.per ?_, q⟩⟩
  · subst e
    rw [List.append_assoc, List.flatten_append, List.flatten_append, List.singleton_append, List.flatten_cons]
    exact (pm P').symm.append_left _
  · subst e
    rw [List.singleton_append, List.flatten_cons]
    exact (pm P').symm
/-- .. with none -/
theorem tk2_spot {sp : SpD} {ds : List D} {G : Pt} {P1 : List Cell} {f : List Cell → Pt} (s : Spot G P1 f) (h : sp ds [P1] (fun d Ps' => ∃ P', Ps' = [P'] ∧ Q d (f P')) (fun C fs Ps' => ∃ P', Ps' = [P'] ∧ R C fs (f P'))) : ∃ Ps Rest Qd Rd, Tk2 sp ds G Q R Ps Rest Qd Rd := by
  obtain ⟨Rest, t, pm⟩ := s.take
  refine ⟨[P1], Rest, _, _, .cons t .nil, h, fun d Ps' ⟨P', e, q⟩ => ⟨f P', Sb.per ?_, q⟩, fun C fs Ps' ⟨P', e, q⟩ => ⟨f P', Sb.per ?_, q⟩⟩
  all_goals
    subst e
    rw [List.singleton_append, List.flatten_cons]
    exact (pm P').symm
theorem tk2_pure {sp : SpD} {ds : List D} {G : Pt} (h : sp ds [] (fun d _ => Q d G) (fun C fs _ => R C fs G)) : ∃ Ps Rest Qd Rd, Tk2 sp ds G Q R Ps Rest Qd Rd :=
  ⟨[], G, _, _, .nil, h, fun d Ps' q => ⟨G, Sb.drop, q⟩, fun _ _ Ps' q => ⟨G, Sb.drop, q⟩⟩
end
end Dl
namespace Dl
open PySem PySem.Spec PyProof.Rows L2

/-! ### a list that is handed over: one that stays, or one of the caller's own -/
inductive Lst : D → List D → Pt → Prop
  | val {ds : List D} : Lst (.lst ds) ds []
  | own {q : Addr} {ds : List D} : Lst (.ref q) ds [[(q, .lst ds)]]
section
variable {X : Cx} {P : Program} {w : World} {K : PySem.W.Frag} {mg : Str → Option Value} {base : Heap} {sc : Scope} {N : List Str} {Vs : List Nat} {GN : List Str} {k : Nat}
variable {σd : Sd} {Gs : Pt} {Q : QD} {R : RX} {e a b c o tg iter elt : Expr} {es : List Expr} {pos p2 apos cpos : Pos} {sts body : List Stmt}
variable {nx bk ct : Sd → Pt → Prop} {rt : QD} {ex : RX}
theorem Lst.ls {x : D} {ds : List D} {ext : Pt} (h : Lst x ds ext) {A : Pt} : LsD K (A ++ ext) x ds := by
  cases h with
  | val => exact ls_val
  | own =>
    refine ls_own ?_
    induction A with
    | nil => exact .here .here
    | cons P A ih => exact .next ih
theorem Lst.ls1 {x : D} {ds : List D} {ext : Pt} {P1 : List Cell} (h : Lst x ds ext) : LsD K (P1 :: ext) x ds := h.ls (A := [P1])
theorem Lst.ls0 {x : D} {ds : List D} {ext : Pt} (h : Lst x ds ext) : LsD K ext x ds := h.ls (A := [])
theorem Lst.pick {x : D} {ds : List D} {ext : Pt} (h : Lst x ds ext) {P1 : List Cell} : Pick (P1 :: ext) ext [P1] := by
  cases h with
  | val => exact .nil
  | own => exact .cons (.next .here) .nil
theorem Lst.pick0 {x : D} {ds : List D} {ext : Pt} (h : Lst x ds ext) : Pick ext ext [] := by
  cases h with
  | val => exact .nil
  | own => exact .cons .here .nil
theorem Lst.pickA {x : D} {ds : List D} {ext : Pt} (h : Lst x ds ext) {P1 : List Cell} : Pick (P1 :: ext) (P1 :: ext) [] := .cons .here h.pick0
theorem Sb.nilR {A : Pt} : Sb A (A ++ []) := by
  rw [List.append_nil]
  exact Sb.refl
/-- for over such a list; it stays -/
theorem it_ls {Q : List D → (Pt → Prop) → Pt → Prop} (h : EvD X iter σd Gs (fun x G => ∃ ds ext, Lst x ds ext ∧ G = ext ∧ Q ds (fun G' => G' = ext) G) R) : ItE X tg iter σd Gs Q R := by
  intro pn xe E F σ H wh hE ob sl
  refine (pi_list (X := X.tr pn xe) PE.self).get ?_
  refine h.go wh hE Keep.refl ob sl fun v H1 x G1 ob1 k1 _ sl1 rx ⟨ds, ext, hl, eg, q⟩ => ?_
  cases hl with
  | val =>
    obtain ⟨a, vs, rfl, n, t, r⟩ := rx
    refine ⟨a, rfl, ⟨vs, .inl (.inl t)⟩, ds, _, G1, ob1, k1, jd_list (vs := vs) fun G H' Fx ob' kp _ => ?_, q⟩
    obtain ⟨t', n'⟩ := kp a _ t n
    exact ⟨vs, .inl (.inl t'), RDs.keep kp _ _ r⟩
  | @own p ds =>
    cases (show v = .ref p from rx)
    subst eg
    obtain ⟨o, e, vs, rfl, r⟩ := ob1.get (.here .here)
    refine ⟨p, rfl, ⟨vs, .inl (.inl e)⟩, ds, _, _, ob1, k1, jd_list (vs := vs) fun G H' Fx ob' kp st => ?_, q⟩
    subst st
    obtain ⟨o, e, vs, rfl, r⟩ := ob'.get (Gs := [[(p, .lst ds)]]) (.here .here)
    exact ⟨vs, .inl (.inl e), r⟩
theorem fg_ {α : Type} (f : α → D) {ext : Pt} (B : Bd X P w K mg base sc N Vs GN k)
    (h : EvD X iter σd Gs (fun d G1 => ∃ l : List α, Lst d (l.map f) ext ∧ G1 = ext ∧ ∃ J : Nat → Sd → Prop, J 0 σd ∧
      (∀ i x σ', l[i]? = some x → J i σ' → TgD X tg (f x) σ' ext (fun σ2 G2 => SsD X body σ2 G2 ⟨fun σ G => J (i + 1) σ ∧ G = ext, rt, nx, fun σ G => J (i + 1) σ ∧ G = ext, ex⟩) ex) ∧ (∀ σ', J l.length σ' → nx σ' ext)) ex)
    (hf : ∀ x, foldedSetIterable iter X.env x = pure x := by intro _; rfl) : StD X (.For tg iter body [] pos) σd Gs ⟨nx, rt, bk, ct, ex⟩ := by
  refine sfor_ B (it_ls (EvD.imp h fun d G' ⟨l, hl, eg, J, j0, turn, done⟩ => ⟨l.map f, ext, hl, eg, ?_⟩)) hf
  refine inv_ (stay := fun G' => G' = ext) (fun i σ G => J i σ ∧ G = ext) ⟨j0, eg⟩ (fun i d σ' G' hd ⟨hJ, eG⟩ => ?_) fun σ' G' ⟨hJ, eG⟩ => ?_
  · subst eG
    obtain ⟨x, hx, rfl⟩ := map_get hd
    exact ⟨rfl, turn i x σ' hx hJ⟩
  · subst eG
    exact ⟨rfl, done σ' (by rw [List.length_map] at hJ; exact hJ)⟩
/-- list(..) that will change -/
theorem k_listO {x : D} {ds : List D} (hx : LsD X.K Gs x ds) (q : ∀ p, Q (.ref p) ([(p, .lst ds)] :: Gs)) : CalD X (.type "list") [x] Gs Q := ⟨rListOf X.K, fun pn xe => call_list_of, fun F H vs ob r => by
  obtain ⟨v, _, rfl, rv, rfl⟩ := r
  obtain ⟨a, ys, rfl, ha, rs⟩ := hx F H v ob rv
  refine ⟨a, ys, rfl, .inl (.inl (.inl ha)), fun l hl => ?_⟩
  exact Post.of (d := .ref l) (ob.new (m := .lst ds) hl ⟨ys, rfl, rs⟩) (Keep.newO hl) rfl (q l)⟩
/-- parts that are handed over as they are chosen -/
theorem tk2_pick {sp : SpD} {ds : List D} {G Ps Rest : Pt} (pk : Pick G Ps Rest) (h : sp ds Ps (fun d Ps' => ∃ G', Sb G' (Ps' ++ Rest) ∧ Q d G') (fun C fs Ps' => ∃ G', Sb G' (Ps' ++ Rest) ∧ R C fs G')) : ∃ Ps Rest Qd Rd, Tk2 sp ds G Q R Ps Rest Qd Rd :=
  ⟨Ps, Rest, _, _, pk, h, fun _ _ z => z, fun _ _ _ z => z⟩
theorem Sb.comm {A B : Pt} : Sb (A ++ B) (B ++ A) := Sb.per (by rw [List.flatten_append, List.flatten_append]; exact List.perm_append_comm)
/-- C(e, ..), which may raise -/
structure Tk3 (sp : SpD) (C : Addr) (ds : List D) (G : Pt) (Q : QD) (R : RX) : Prop where
  go : ∀ q, sp (.ref q :: ds) [[(q, .ins C [] [])]] (fun d Ps' => d = .non ∧ Q (.ref q) (Ps' ++ G)) (fun C fs Ps' => R C fs (Ps' ++ G))
theorem makeX_ {x : Str} {p : Pos} {C : Addr} {j i n : Nat} {dd : List D} {sp : SpD} (B : Bd X P w K mg base sc N Vs GN k) (c : CalC P w K mg base j x C n dd sp) (hG : At GN i x) (hj : j + 1 ≤ k)
    (h : EvA X (e :: es) σd Gs (fun ds G => (ds ++ dd).length + 1 = n ∧ Tk3 sp C (ds ++ dd) G Q R) R)
    (he : starEach (e :: es) X.env = (false, eval e X.env) :: starEach es X.env := by rfl) (hpl : (backTo pos (starEach es X.env)).any (·.1) = false := by rfl) : EvD X (.Call (.Name x p) (e :: es) [] pos) σd Gs Q R := by
  refine e_make B c hG.get hj ?_ he hpl
  intro pn xe E F σ H wh hE ob sl
  exact (h pn xe E F σ H wh hE ob sl).imp fun vs H' ⟨ds, G, a1, a2, a3, hn, t⟩ => ⟨ds, G, a1, a2, a3, hn, fun q => ⟨[], G, .nil, t.go q⟩⟩
theorem makeX0_ {x : Str} {p : Pos} {C : Addr} {j i n : Nat} {dd : List D} {sp : SpD} (B : Bd X P w K mg base sc N Vs GN k) (c : CalC P w K mg base j x C n dd sp) (hG : At GN i x) (hj : j + 1 ≤ k)
    (h : dd.length + 1 = n ∧ Tk3 sp C dd Gs Q R) : EvD X (.Call (.Name x p) [] [] pos) σd Gs Q R :=
  e_make0 B c hG.get hj ⟨h.1, fun q => ⟨[], Gs, .nil, h.2.go q⟩⟩
/-! ### fields, found by their places -/
theorem fo_own {p C : Addr} {ns : List Str} {ds : List D} {f : Str} {d : D} {j : Nat} (B : Bd X P w K mg base sc N Vs GN k) (T : ClsI K C ns) (h : Has Gs p (.ins C ns ds)) (hj : At ns j f) (hd : At ds j d) (q : Q d Gs) : FldD X.K (.ref p) f Gs Q := by
  rw [B.eK]
  exact fld_own j T h hj.get hd.get q
theorem fs_old {p C : Addr} {ns : List Str} {ds ds' : List D} {f : Str} {d : D} {Gs' : Pt} {j : Nat} {Q : Pt → Prop} (B : Bd X P w K mg base sc N Vs GN k) (T : ClsI K C ns) (hj : At ns j f) (u : Upd Gs p (.ins C ns ds) (.ins C ns ds') Gs') (hd : SetAt ds j d ds') (hl : j < ds.length) (hz : ns.length < 1000) (q : Q Gs') : SfD X.K (.ref p) f d Gs Q := by
  have e := hd.eq
  subst e
  rw [B.eK]
  exact sf_old j T u hj.get hl hz q
theorem fs_new {p C : Addr} {ns n1 n2 : List Str} {ds : List D} {f : Str} {d : D} {Gs' : Pt} {Q : Pt → Prop} (j : Nat) (B : Bd X P w K mg base sc N Vs GN k) (T : ClsI K C ns) (e1 : ns.take j = n1) (e2 : ns.take (j + 1) = n2) (hj : ns[j]? = some f) (u : Upd Gs p (.ins C n1 ds) (.ins C n2 (ds ++ [d])) Gs') (hl : ds.length = j) (hz : ns.length < 1000) (q : Q Gs') : SfD X.K (.ref p) f d Gs Q := by
  subst e1 e2
  rw [B.eK]
  exact sf_new j T u hj hl hz q
end
end Dl
namespace Dl
open PySem PySem.Spec PyProof.Rows L2
section
variable {X : Cx} {P : Program} {w : World} {K : PySem.W.Frag} {mg : Str → Option Value} {base : Heap} {sc : Scope} {N : List Str} {Vs : List Nat} {GN : List Str} {k : Nat}
variable {σd : Sd} {Gs : Pt} {Q : QD} {R : RX} {e a b c o tg iter elt : Expr} {es : List Expr} {pos p2 apos cpos : Pos} {sts body : List Stmt}
variable {nx bk ct : Sd → Pt → Prop} {rt : QD} {ex : RX} {n : Nat} {D : DE} {C c' : Addr} {fs : List (Str × Dl.D)} {G : Pt} {st : List Stmt} {l : List Cl}
/-! ### the clauses, one by one -/
theorem ca_no {i : Option Nat} (B : Bd X P w K mg base sc N Vs GN k) (h : PySem.W.exmOne K (.ref C) (.ref c') = some false) (h2 : CatchD X n D C fs G l) : CatchD X n D C fs G (⟨c', i, st⟩ :: l) :=
  ⟨false, by rw [B.eK]; exact h, ⟨fun z => absurd z Bool.false_ne_true, fun _ => h2⟩⟩
theorem ca_un (B : Bd X P w K mg base sc N Vs GN k) (h : PySem.W.exmOne K (.ref C) (.ref c') = some true) (h2 : ∀ a, SuD X a C fs st (List.replicate n none) G D) : CatchD X n D C fs G (⟨c', none, st⟩ :: l) :=
  ⟨true, by rw [B.eK]; exact h, fun _ a => h2 a, fun z => nomatch z⟩
theorem ca_as {i : Nat} (B : Bd X P w K mg base sc N Vs GN k) (h : PySem.W.exmOne K (.ref C) (.ref c') = some true)
    (h2 : ∀ a, SuD X a C fs st ((List.replicate n none).set i (some (.ref a))) G ⟨fun σ => nx (σ.set i none), rt, fun σ => bk (σ.set i none), fun σ => ct (σ.set i none), ex⟩) : CatchD X n ⟨nx, rt, bk, ct, ex⟩ C fs G (⟨c', some i, st⟩ :: l) :=
  ⟨true, by rw [B.eK]; exact h, fun _ a => h2 a, fun z => nomatch z⟩
theorem ca_nil (h : ex C fs G) : CatchD X n ⟨nx, rt, bk, ct, ex⟩ C fs G [] := h
theorem fs_new' {p C : Addr} {ns n1 n2 : List Str} {ds ds2 : List Dl.D} {f : Str} {d : Dl.D} {Gs' : Pt} {Q : Pt → Prop} (B : Bd X P w K mg base sc N Vs GN k) (T : ClsI K C ns) (u : Upd Gs p (.ins C n1 ds) (.ins C n2 ds2) Gs') (e0 : ds ++ [d] = ds2) (e1 : ns.take ds.length = n1) (e2 : ns.take (ds.length + 1) = n2) (hj : ns[ds.length]? = some f) (hz : ns.length < 1000) (q : Q Gs') : SfD X.K (.ref p) f d Gs Q := by
  subst e0
  exact fs_new ds.length B T e1 e2 hj u rfl hz q
/-- an own class in an except clause -/
theorem exm_of {C1 C2 : Addr} {b : Bool} (h1 : PySem.W.subIn K (.ref C2) (.type "BaseException") = some true) (hd : PySem.W.hasDictIn K C2 = true) (ht : PySem.W.typeIn K (.ref C2) = some (.type "type")) (h4 : PySem.W.subIn K (.ref C1) (.ref C2) = some b) : PySem.W.exmOne K (.ref C1) (.ref C2) = some b := by
  have ci : (PySem.W.clsIn K C2).isSome = true := by
    unfold PySem.W.hasDictIn at hd
    cases e : PySem.W.clsIn K C2 with
    | none => rw [e] at hd; cases hd
    | some _ => rfl
  have e1 : (PySem.W.subIn K (.ref C2) (.type "BaseException") == some true) = true := by rw [h1] <;> rfl
  have e2 : ((PySem.W.clsIn K C2).isSome && PySem.W.typeIn K (.ref C2) == some (.type "type")) = true := by rw [ci, ht] <;> rfl
  unfold PySem.W.exmOne PySem.W.kitCls
  rw [if_pos e1]
  show (if ((PySem.W.clsIn K C2).isSome && PySem.W.typeIn K (.ref C2) == some (.type "type")) = true then PySem.W.subIn K (.ref C1) (.ref C2) else none) = some b
  rw [if_pos e2]
  exact h4
end
end Dl
namespace Dl
open PySem PySem.Spec PyProof.Rows L2
section
variable {X : Cx} {P : Program} {w : World} {K : PySem.W.Frag} {mg : Str → Option Value} {base : Heap} {sc : Scope} {N : List Str} {Vs : List Nat} {GN : List Str} {k : Nat}
variable {σd : Sd} {Gs : Pt} {Q : QD} {R : RX} {e a b c o tg iter elt : Expr} {es rest : List Expr} {pos p2 apos cpos : Pos} {sts body : List Stmt}
variable {nx bk ct : Sd → Pt → Prop} {rt : QD} {ex : RX} {fs : List (Str × Dl.D)} {xa C : Addr} {t u : Bool}
/-! ### what a handler asks of the exception that it holds -/
def HV (X : Cx) (xa C : Addr) (fs : List (Str × Dl.D)) (e : Expr) (σd : Sd) (t : Bool) : Prop := ∀ oe od pn σ H N' (Q : VK), Zc (.ref C) od oe → (∃ vs, oe.data = .fields vs) → (fs = [] → od = none) → Sl X.K N' H σd σ → Q (.bl t) H → sem (X.suite xa ((xa, oe) :: pn)) e σ H Q
def HT (X : Cx) (xa C : Addr) (fs : List (Str × Dl.D)) (e : Expr) (σd : Sd) (t : Bool) : Prop := ∀ oe od pn σ H N' (Q : Bool → Hp → Prop), Zc (.ref C) od oe → (∃ vs, oe.data = .fields vs) → (fs = [] → od = none) → Sl X.K N' H σd σ → Q t H → semT (X.suite xa ((xa, oe) :: pn)) e σ H Q
theorem kit_of {C c' : Addr} (hd : PySem.W.hasDictIn K c' = true) (ht : PySem.W.typeIn K (.ref c') = some (.type "type")) (h1 : PySem.W.subIn K (.ref c') (.ref c') = some true) (h4 : PySem.W.subIn K (.ref C) (.ref c') = some t) : PySem.W.kitOne K (.ref C) (.ref c') = some t := by
  have ci : (PySem.W.clsIn K c').isSome = true := by
    unfold PySem.W.hasDictIn at hd
    cases e : PySem.W.clsIn K c' with
    | none => rw [e] at hd; cases hd
    | some _ => rfl
  have e2 : ((PySem.W.clsIn K c').isSome && PySem.W.typeIn K (.ref c') == some (.type "type")) = true := by rw [ci, ht] <;> rfl
  unfold PySem.W.kitOne PySem.W.kitCls
  by_cases hc : ((Value.ref C) == (Value.ref c')) = true
  · rw [if_pos hc]
    have e : C = c' := Value.ref.inj (beq_iff_eq.mp hc)
    subst e
    rw [h1] at h4
    exact h4
  · rw [if_neg hc]
    show (if ((PySem.W.clsIn K c').isSome && PySem.W.typeIn K (.ref c') == some (.type "type")) = true then PySem.W.subIn K (.ref C) (.ref c') else none) = some t
    rw [if_pos e2]
    exact h4
theorem hv_isi {T n : Str} {c' : Addr} {p q1 q2 : Pos} {i j l : Nat} (B : Bd X P w K mg base sc N Vs GN k) (hm : mg "isinstance" = none) (hG : At GN j ("isinstance" : Str)) (hm2 : mg T = some (.ref c')) (hG2 : At GN l T) (hN : At N i n) (hV : Vs[i]? = some 2) (hs : σd[i]? = some (some (.ref xa)))
    (T1 : ExcC K C) (hk : PySem.W.kitOne K (.ref C) (.ref c') = some t) (hf : fs = [])
    (hdb : (T == ("__debug__" : Str)) = false := by decide) (he : starEach [.Name n q2, .Name T q1] X.env = (false, eval (.Name n q2) X.env) :: starEach [.Name T q1] X.env := by rfl) (he2 : starEach [.Name T q1] X.env = (false, eval (.Name T q1) X.env) :: starEach [] X.env := by rfl) (hpl : (backTo pos (starEach [.Name T q1] X.env)).any (·.1) = false := by rfl) :
    HV X xa C fs (.Call (.Name "isinstance" p) [.Name n q2, .Name T q1] [] pos) σd t := by
  obtain ⟨rfl, rfl, rfl, rfl, rfl, rfl, _, _, _, _, _, nm, _⟩ := B
  intro oe od pn σ H N' Q hz hv hx sl q
  cases hx hf
  obtain ⟨g1, g2, g3⟩ := nm.gl j _ hG.get
  obtain ⟨f1, f2, f3⟩ := nm.gl l _ hG2.get
  obtain ⟨v1, v2, v3⟩ := nm.vis i n 1 hN.get hV
  obtain ⟨v0, e0, r0⟩ := sl.2 i _ hs
  cases (show v0 = .ref xa from r0)
  refine (pe_callB (X := X.suite xa ((xa, oe) :: pn)) (call_isE (X := X) (pn := pn) T1 hz hv) g1 hm (by decide +kernel) (pa_cons (pe_var (X := X.suite xa ((xa, oe) :: pn)) (i := i) hN.get v1 v2 v3) (pa_cons (pe_glob (v := .ref c') f1 hm2 rfl hdb) pa_nil he2) he) g3 g2 he hpl).get ?_
  exact ⟨.ref xa, e0, .ref c', .ref c', t, rfl, fun u r => r, hk, q⟩
theorem hv_not (h : HV X xa C fs a σd t) : HV X xa C fs (.UnaryOp .Not a pos) σd (!t) := fun oe od pn σ H N' Q hz hv hx sl q =>
  (pe_not (X := X.suite xa ((xa, oe) :: pn)) PE.self).get (h oe od pn σ H N' _ hz hv hx sl ⟨t, rfl, q⟩)
theorem hv_one {op : BoolOp} (h : HV X xa C fs a σd t) : HV X xa C fs (.BoolOp op [a] pos) σd t := fun oe od pn σ H N' Q hz hv hx sl q =>
  (pe_one (X := X.suite xa ((xa, oe) :: pn)) PE.self).get (h oe od pn σ H N' _ hz hv hx sl q)
theorem hv_and (h : HV X xa C fs a σd t) (h2 : HV X xa C fs (.BoolOp .And (b :: rest) pos) σd u) : HV X xa C fs (.BoolOp .And (a :: b :: rest) pos) σd (t && u) := fun oe od pn σ H N' Q hz hv hx sl q =>
  (pe_and (X := X.suite xa ((xa, oe) :: pn)) PE.self PE.self).get (h oe od pn σ H N' _ hz hv hx sl ⟨t, rfl, by
    cases t with
    | true => exact h2 oe od pn σ H N' _ hz hv hx sl q
    | false => exact q⟩)
theorem eh_hv (h : HV X xa C fs e σd t) (q : Q (.bl t) Gs) : EvH X xa C fs e σd Gs Q := fun oe od pn F σ H hz hv hx ob sl =>
  h oe od pn σ H _ _ hz hv (fun hf => by
    rcases hx with hx | ⟨_, _, z0, _⟩
    · exact hx.2
    · exact absurd hf z0) sl (Post.of (d := .bl t) ob Keep.refl rfl q)
theorem ht_val (h : HV X xa C fs a σd t) (he : ∀ whole, isTrue a X.env whole = (do let v ← whole; standAt a.pos; holding [v] (truthy v)) := by intro _; rfl) : HT X xa C fs a σd t := fun oe od pn σ H N' Q hz hv hx sl q =>
  (pt_truth (X := X.suite xa ((xa, oe) :: pn)) PE.self he).get (h oe od pn σ H N' _ hz hv hx sl ⟨t, rfl, q⟩)
theorem ht_not (h : HT X xa C fs a σd t) : HT X xa C fs (.UnaryOp .Not a pos) σd (!t) := fun oe od pn σ H N' Q hz hv hx sl q =>
  (pt_not (X := X.suite xa ((xa, oe) :: pn)) PT.self).get (h oe od pn σ H N' _ hz hv hx sl q)
theorem ht_and2 (h : HT X xa C fs a σd t) (h2 : HT X xa C fs b σd u) : HT X xa C fs (.BoolOp .And [a, b] pos) σd (t && u) := fun oe od pn σ H N' Q hz hv hx sl q =>
  (pw_and (X := X.suite xa ((xa, oe) :: pn)) PT.self (pw_and1 PT.self)).pt.get (h oe od pn σ H N' _ hz hv hx sl (by
    cases t with
    | true => exact h2 oe od pn σ H N' _ hz hv hx sl q
    | false => exact q))
theorem su_ifR {ys : List Stmt} (ht : HT X xa C fs c σd t) (et : t = true) (h : EvH X xa C fs e σd Gs rt) : SuD X xa C fs (.If c [.Return (some e) p2] ys apos :: sts) σd Gs ⟨nx, rt, bk, ct, ex⟩ := by
  subst et
  intro oe od pn F σ H hz hv hx ob sl
  refine (pss_cons (X := X.suite xa ((xa, oe) :: pn)) (ps_if PT.self (pss_cons (ps_ret PE.self) pss_nil) PSs.self) PSs.self).get ?_
  refine ht oe od pn σ H _ _ hz hv (fun hf => by
    rcases hx with hx | ⟨_, _, z0, _⟩
    · exact hx.2
    · exact absurd hf z0) sl ?_
  rw [if_pos rfl]
  exact h oe od pn F σ H hz hv hx ob sl
/-- what an expression hands over is frozen -/
theorem e_frz (h : EvD X e σd Gs (fun d G => ∃ p ds G', d = .ref p ∧ Take G [(p, .lst ds)] G' ∧ Q (.lst ds) G') R) : EvD X e σd Gs Q R := by
  intro pn xe E F σ H wh hE ob sl
  refine (h pn xe E F σ H wh hE ob sl).imp fun v H' ⟨d, G1, ob1, k1, r1, p, ds, G', ed, t, q⟩ => ?_
  subst ed
  cases (show v = .ref p from r1)
  have hm : Has G1 p (.lst ds) := t.has .here
  obtain ⟨o, e, vs, rfl, r⟩ := ob1.get hm
  have pr : (tot ([[(p, M.lst ds)]] ++ G') F).Perm (tot G1 F) := by
    unfold tot
    rw [List.singleton_append, List.flatten_cons]
    exact t.perm.append_right F
  have ob' := ob1.perm pr
  have su : (tot G' F).Sublist (tot ([[(p, M.lst ds)]] ++ G') F) := by
    show (G'.flatten ++ F).Sublist ((p, M.lst ds) :: (G'.flatten ++ F))
    exact List.sublist_cons_self _ _
  have ob2 := ob'.sub su
  have kk : ∀ x, x ∉ dm (tot G1 F) → x ∉ dm (tot G' F) := fun x hx hx' => hx ((pr.map (fun c : Cell => c.1)).mem_iff.mp ((su.map (fun c : Cell => c.1)).subset hx'))
  have pn' : p ∉ dm (tot G' F) := by
    have nd : (dm (tot ([[(p, M.lst ds)]] ++ G') F)).Nodup := ob'.nd
    have nd' : (p :: dm (tot G' F)).Nodup := nd
    exact (List.nodup_cons.mp nd').1
  exact ⟨.lst ds, G', ob2, k1.trans (Keep.self kk), ⟨p, vs, rfl, pn', e, RDs.perm kk _ _ r⟩, q⟩
end
end Dl
namespace Dl
open PySem PySem.Spec PyProof.Rows L2
/-! ### zip of three tuples -/
def ItzT3 (K : PySem.W.Frag) (a b c : Addr) (L : Nat) : It :=
  ⟨fun i H => ∃ (xs ys us : List V) (x y u : V), SqT K H a xs ∧ SqT K H b ys ∧ SqT K H c us ∧ xs[i]? = some x ∧ ys[i]? = some y ∧ us[i]? = some u ∧ xs.length = L,
    fun i H v H' => ∃ T x y u, v = .ref T ∧ H T = none ∧ H' = upd H T (.tup [x, y, u]) ∧ (∀ xs, SqT K H a xs → xs[i]? = some x) ∧ (∀ ys, SqT K H b ys → ys[i]? = some y) ∧ ∀ us, SqT K H c us → us[i]? = some u,
    fun i H => ∃ xs ys us : List V, SqT K H a xs ∧ SqT K H b ys ∧ SqT K H c us ∧ xs.length = L ∧ ys.length = L ∧ us.length = L ∧ L ≤ i⟩
structure Sep3 (z TI TO i1 i2 i3 a b c : Addr) : Prop where
  S : ZipSep3 z TI TO i1 i2 i3 [i1, a] [i2, b] [i3, c]
  n1 : a ≠ i1
  n2 : b ≠ i2
  n3 : c ≠ i3
  z1 : i1 ≠ z
  z2 : i2 ≠ z
  z3 : i3 ≠ z
theorem sep3_of {I a b c : Nat} (ha : a < I) (hb : b < I) (hc : c < I) : Sep3 (I + 5) (I + 3) (I + 4) I (I + 1) (I + 2) a b c := by
  have nn : ∀ {x y : Nat}, x ≠ y → (x : Addr) ≠ (y : Addr) := fun h => h
  constructor
  · constructor <;> first
      | exact nn (by omega)
      | exact List.mem_cons_self
      | (intro h
         rcases List.mem_cons.mp h with h | h
         · exact absurd h (nn (by omega))
         · exact absurd (List.mem_singleton.mp h) (nn (by omega)))
  all_goals exact nn (by omega)
theorem turn_zipT3 {P : Program} {w : World} {K : PySem.W.Frag} {elts : List Expr} {kk : Nat} {tpos : Pos} {a b c z TI TO i1 i2 i3 : Addr} {L : Nat} (D : Sep3 z TI TO i1 i2 i3 a b c) :
    Turn P w K (.Tuple elts kk tpos) (ItzT3 K a b c L) [z, TI, TO, i1, i2, i3] z (fun i h => IsZip h z TI TO .none ∧ IsTupOf3 h TI (.ref i1) (.ref i2) (.ref i3) ∧ (∃ x y u, IsTupOf3 h TO x y u) ∧ h.IsTupleIter i1 a i ∧ h.IsTupleIter i2 b i ∧ h.IsTupleIter i3 c i ∧ i ≤ L) where
  mem := by simp
  obj := fun i h st d hd => by
    obtain ⟨hz, hTI, ⟨x, y, u, hTO⟩, ⟨o1, e1, _, d1⟩, ⟨o2, e2, _, d2⟩, ⟨o3, e3, _, d3⟩, _⟩ := st
    have e' : d = z ∨ d = TI ∨ d = TO ∨ d = i1 ∨ d = i2 ∨ d = i3 := by simpa using hd
    rcases e' with q | q | q | q | q | q
    · rw [q]; exact ⟨_, hz, fun v q => nomatch q⟩
    · rw [q]; exact ⟨_, hTI, fun v q => nomatch q⟩
    · rw [q]; exact ⟨_, hTO, fun v q => nomatch q⟩
    · rw [q]; exact ⟨o1, e1, fun v q => by rw [d1] at q; cases q⟩
    · rw [q]; exact ⟨o2, e2, fun v q => by rw [d2] at q; cases q⟩
    · rw [q]; exact ⟨o3, e3, fun v q => by rw [d3] at q; cases q⟩
  keep := fun i h h' st k => by
    obtain ⟨hz, hTI, ⟨x, y, u, hTO⟩, h1, h2, h3, hiL⟩ := st
    exact ⟨k z (by simp) _ hz, k TI (by simp) _ hTI, ⟨x, y, u, k TO (by simp) _ hTO⟩, h1.at fun o q => k i1 (by simp) o q, h2.at fun o q => k i2 (by simp) o q, h3.at fun o q => k i3 (by simp) o q, hiL⟩
  item := by
    intro X hP hw hK hc i pins s σ H E I hf st hg
    subst hP hw hK
    obtain ⟨hz, hTI, ⟨x0, y0, u0, hTO⟩, h1, h2, h3, hiL⟩ := st
    obtain ⟨xs, ys, us, x, y, u, hqx, hqy, hqu, hx, hy, hu, hL⟩ := hg
    obtain ⟨its, rv, p, _⟩ := I.tuple hqx
    obtain ⟨its2, rv2, p2, _⟩ := I.tuple hqy
    obtain ⟨its3, rv3, p3, _⟩ := I.tuple hqu
    obtain ⟨v1, hv1, r1⟩ := rv.get hx
    obtain ⟨v2, hv2, r2⟩ := rv2.get hy
    obtain ⟨v3, hv3, r3⟩ := rv3.get hu
    have hh : X.A.in1.handled = none := I.ok.hd hc
    have D1 : Draws X.prog X.w X.A.in1 i1 [i1, a] its.toArray.size (fun i v => its.toArray[i]? = some v) (fun i h => h.IsTupleIter i1 a i ∧ h.IsTuple a its.toArray) := Draws.tuple hh i1 a D.n1 its.toArray
    have D2 : Draws X.prog X.w X.A.in1 i2 [i2, b] its2.toArray.size (fun i v => its2.toArray[i]? = some v) (fun i h => h.IsTupleIter i2 b i ∧ h.IsTuple b its2.toArray) := Draws.tuple hh i2 b D.n2 its2.toArray
    have D3 : Draws X.prog X.w X.A.in1 i3 [i3, c] its3.toArray.size (fun i v => its3.toArray[i]? = some v) (fun i h => h.IsTupleIter i3 c i ∧ h.IsTuple c its3.toArray) := Draws.tuple hh i3 c D.n3 its3.toArray
    have hzl : z < s.heap.objs.size := Heap.lt_size hz
    refine wpAny_pyNext_zipD3_item D.S D1 D2 D3 hz hTI hTO ⟨h1, p⟩ ⟨h2, p2⟩ ⟨h3, p3⟩
      (by rw [List.size_toArray]; exact (List.getElem?_eq_some_iff.mp hv1).1) (by rw [List.size_toArray]; exact (List.getElem?_eq_some_iff.mp hv2).1) (by rw [List.size_toArray]; exact (List.getElem?_eq_some_iff.mp hv3).1)
      fun x1 x2 x3 h' tk e1 e2 e3 z' TO' s1 s2 s3 hT hsz hk => ?_
    have q1 : x1 = v1 := by
      rw [List.getElem?_toArray, hv1] at e1
      exact (Option.some.inj e1).symm
    have q2 : x2 = v2 := by
      rw [List.getElem?_toArray, hv2] at e2
      exact (Option.some.inj e2).symm
    have q3 : x3 = v3 := by
      rw [List.getElem?_toArray, hv3] at e3
      exact (Option.some.inj e3).symm
    subst q1 q2 q3
    refine ⟨_, rfl, wpAny_letOwnedTupleGo_zip (s := { s with heap := h', toks := tk }) z' fun h'' z'' sb => ?_⟩
    have hT2 : h''.get? s.heap.objs.size = some { cls := .type "tuple", data := .seq #[x1, x2, x3] } := (sb.2 _ (Nat.ne_of_gt hzl)).trans hT
    have new : ObjOk X.prog X.w (L2.upd H s.heap.objs.size (.tup [x, y, u])) h'' s.heap.objs.size (.tup [x, y, u]) :=
      ⟨by show 3 ≤ sizeLine; rw [sizeLine_eq]; decide, [x1, x2, x3], .cons r1 (.cons r2 (.cons r3 .nil)), ⟨_, hT2, rfl, _, rfl⟩⟩
    have I1 : Inv X pins σ (L2.upd H s.heap.objs.size (.tup [x, y, u])) { s with heap := h'', toks := tk } :=
      I.turnedNew (t' := tk) (ch := [z, TI, TO, i1, i2, i3]) (fun c o hb q => (sb.2 c (fun q' => hb (by simp [q']))).trans (hk c o (fun q' => hb (by simp [q'])) (fun q' => hb (by simp [q'])) (fun q' => hb (by simp [q'])) (fun q' => hb (by simp [q'])) (fun q' => hb (by simp [q'])) q)) hf (Nat.le_refl _) new
    refine ⟨.ref s.heap.objs.size, _, I1, rfl, ⟨_, x, y, u, rfl, I.hok.fresh (Nat.le_refl _), rfl, fun l hl => by rw [I.tuple_inj hl hqx]; exact hx, fun l hl => by rw [I.tuple_inj hl hqy]; exact hy, fun l hl => by rw [I.tuple_inj hl hqu]; exact hu⟩, ⟨z'', ?_, ⟨x1, x2, x3, ?_⟩, ?_, ?_, ?_, by have := (List.getElem?_eq_some_iff.mp hx).1; omega⟩, fun d hcm => ?_⟩
    · exact (sb.2 _ D.S.TIz).trans (hk _ _ D.S.TIz D.S.TITO D.S.TIi1 D.S.TIi2 D.S.TIi3 hTI)
    · exact (sb.2 _ D.S.TOz).trans TO'
    · exact s1.1.at fun o q => (sb.2 _ D.z1).trans q
    · exact s2.1.at fun o q => (sb.2 _ D.z2).trans q
    · exact s3.1.at fun o q => (sb.2 _ D.z3).trans q
    · have hlt : d < s.heap.objs.size := by
        have e' : d = z ∨ d = TI ∨ d = TO ∨ d = i1 ∨ d = i2 ∨ d = i3 := by simpa using hcm
        rcases e' with q | q | q | q | q | q
        · rw [q]; exact hzl
        · rw [q]; exact Heap.lt_size hTI
        · rw [q]; exact Heap.lt_size hTO
        · rw [q]; obtain ⟨_, e1, _⟩ := h1; exact Heap.lt_size e1
        · rw [q]; obtain ⟨_, e2, _⟩ := h2; exact Heap.lt_size e2
        · rw [q]; obtain ⟨_, e3, _⟩ := h3; exact Heap.lt_size e3
      rw [L2.upd_ne (Nat.ne_of_lt hlt)]
      exact (hf d hcm).1
  done := by
    intro X hP hw hK hc i pins s σ H E I hf st hg
    subst hP hw hK
    obtain ⟨hz, hTI, ⟨x0, y0, u0, hTO⟩, h1, h2, h3, hiL⟩ := st
    obtain ⟨xs, ys, us, hqx, hqy, hqu, l1, l2, l3, l4⟩ := hg
    obtain ⟨its, rv, p, _⟩ := I.tuple hqx
    obtain ⟨its2, rv2, p2, _⟩ := I.tuple hqy
    obtain ⟨its3, rv3, p3, _⟩ := I.tuple hqu
    have m1 := rv.length
    have m2 := rv2.length
    have m3 := rv3.length
    have hh : X.A.in1.handled = none := I.ok.hd hc
    have D1 : Draws X.prog X.w X.A.in1 i1 [i1, a] its.toArray.size (fun i v => its.toArray[i]? = some v) (fun i h => h.IsTupleIter i1 a i ∧ h.IsTuple a its.toArray) := Draws.tuple hh i1 a D.n1 its.toArray
    have D2 : Draws X.prog X.w X.A.in1 i2 [i2, b] its2.toArray.size (fun i v => its2.toArray[i]? = some v) (fun i h => h.IsTupleIter i2 b i ∧ h.IsTuple b its2.toArray) := Draws.tuple hh i2 b D.n2 its2.toArray
    have D3 : Draws X.prog X.w X.A.in1 i3 [i3, c] its3.toArray.size (fun i v => its3.toArray[i]? = some v) (fun i h => h.IsTupleIter i3 c i ∧ h.IsTuple c its3.toArray) := Draws.tuple hh i3 c D.n3 its3.toArray
    refine wpAny_pyNext_zipD3_end (i := i) D.S D1 D2 D3 hz hTI hTO ⟨h1, p⟩ ⟨h2, p2⟩ ⟨h3, p3⟩
      (by rw [List.size_toArray]; omega) (by rw [List.size_toArray]; omega) (by rw [List.size_toArray]; omega) (.inl (by rw [List.size_toArray]; omega)) fun h' tk hk => ⟨rfl, I.turnedL (t' := tk) (ch := [z, TI, TO, i1, i2, i3]) (fun d o hb q =>
      hk d o (fun q' => hb (by simp [q'])) (fun q' => hb (by simp [q'])) (fun q' => hb (by simp [q'])) (fun q' => hb (by simp [q'])) (fun q' => hb (by simp [q'])) q) hf⟩
  self := fun A i s Q E st h => wpAny_pyIter_zip st.1 h
def iZipT3 (K : PySem.W.Frag) (ta : TA) : TI := fun σ H R => ta σ H fun vs H1 => ∃ a b c xs ys us, vs = [.ref a, .ref b, .ref c] ∧ SqT K H1 a xs ∧ SqT K H1 b ys ∧ SqT K H1 c us ∧ R (ItzT3 K a b c xs.length) H1
theorem pi_zipT3 {X : Cx} {e e2 e3 : Expr} {ta : TA} {p pos tpos : Pos} {elts : List Expr} {kk : Nat} (hg : Gl X "zip") (hm : X.mg "zip" = none) (ha : PA X [e, e2, e3] ta)
    (hs : starEach [e, e2, e3] X.env = (false, eval e X.env) :: starEach [e2, e3] X.env := by rfl) (hpl : (backTo pos (starEach [e2, e3] X.env)).any (·.1) = false := by rfl) :
    PI X (.Tuple elts kk tpos) (.Call (.Name "zip" p) [e, e2, e3] [] pos) (iZipT3 X.K ta) := by
  refine ⟨fun pins s σ H R I h => ?_⟩
  refine Call_ (ld_blt I hg hm PyProof.Rows.boot_zip (PyProof.Rows.callWith_type1 (thn (ha.run pos pins s σ H _ I h) fun us s1 ⟨vs, H1, I1, r1, q1⟩ => ?_) hs hpl))
  obtain ⟨a, b, c, xs, ys, zs, ex, hqx, hqy, hqu, q⟩ := q1
  subst ex
  cases r1 with
  | cons r rr =>
    cases rr with
    | cons r' rr =>
      cases rr with
      | cons r'' rr =>
        cases rr
        cases r
        cases r'
        cases r''
        obtain ⟨its, rv, p1, _⟩ := I1.tuple hqx
        obtain ⟨its2, rv2, p2, _⟩ := I1.tuple hqy
        obtain ⟨its3, rv3, p3, _⟩ := I1.tuple hqu
        obtain ⟨o1, ho1, _⟩ := id p1
        obtain ⟨o2, ho2, _⟩ := id p2
        obtain ⟨o3, ho3, _⟩ := id p3
        refine zip_begins3 (begins_tuple a its.toArray) (begins_tuple b its2.toArray) (begins_tuple c its3.toArray) p1 p2 p3 fun h' hz hTI hTO h1 h2 h3 hsz hk => wpAny_pyIter_zip hz ?_
        have I2 : Inv X pins σ H1 { s1 with heap := h' } := I1.kept (t' := s1.toks) hk
        refine ⟨s1.heap.objs.size + 5, [s1.heap.objs.size + 5, s1.heap.objs.size + 3, s1.heap.objs.size + 4, s1.heap.objs.size, s1.heap.objs.size + 1, s1.heap.objs.size + 2], _, _, H1, rfl, I2, turn_zipT3 (sep3_of (Heap.lt_size ho1) (Heap.lt_size ho2) (Heap.lt_size ho3)), ⟨hz, hTI, ⟨_, _, _, hTO⟩, ⟨_, h1, rfl, rfl⟩, ⟨_, h2, rfl, rfl⟩, ⟨_, h3, rfl, rfl⟩, Nat.zero_le _⟩, fun c hcm => ?_, q⟩
        have hle : s1.heap.objs.size ≤ c := by
          simp only [List.mem_cons, List.not_mem_nil, or_false] at hcm
          rcases hcm with z | z | z | z | z | z
          · rw [z]; exact Nat.le_add_right _ _
          · rw [z]; exact Nat.le_add_right _ _
          · rw [z]; exact Nat.le_add_right _ _
          · rw [z]; exact Nat.le_refl _
          · rw [z]; exact Nat.le_add_right _ _
          · rw [z]; exact Nat.le_add_right _ _
        exact I1.fpOk hle (I1.hok.fresh hle)
def zip3L (xs ys us : List D) : List D := (List.range xs.length).map fun i => .tup [xs.getD i .non, ys.getD i .non, us.getD i .non]
theorem trip_new {K : PySem.W.Frag} {F : List Cell} {G : Pt} {H : Hp} {T : Addr} {x y u : V} {d1 d2 d3 : D} (ob : Ob K (tot G F) H) (hT : H T = none) (r1 : RD K (dm (tot G F)) H d1 x) (r2 : RD K (dm (tot G F)) H d2 y) (r3 : RD K (dm (tot G F)) H d3 u) :
    Ob K (tot G F) (L2.upd H T (.tup [x, y, u])) ∧ Keep (dm (tot G F)) H (dm (tot G F)) (L2.upd H T (.tup [x, y, u])) ∧ RD K (dm (tot G F)) (L2.upd H T (.tup [x, y, u])) (.tup [d1, d2, d3]) (.ref T) := by
  have kp := Keep.newF (N := dm (tot G F)) (o := .tup [x, y, u]) hT
  exact ⟨ob.newF hT, kp, T, [x, y, u], rfl, .inl ⟨ob.mem_none hT, .inl upd_same⟩, x, _, rfl, RD.keep kp _ _ r1, y, _, rfl, RD.keep kp _ _ r2, u, _, rfl, RD.keep kp _ _ r3, rfl⟩
theorem jd_zip3 {K : PySem.W.Frag} {F : List Cell} {G1 : Pt} {H1 : Hp} {a b c : Addr} {xs ys us : List D} {stay : Pt → Prop} (l2 : ys.length = xs.length) (l3 : us.length = xs.length)
    (h : ∀ G H (Fx : List Cell), Ob K (tot G (Fx ++ F)) H → Keep (dm (tot G1 F)) H1 (dm (tot G (Fx ++ F))) H → (∃ vs, SqT K H a vs ∧ RDs K (dm (tot G (Fx ++ F))) H xs vs) ∧ (∃ vs, SqT K H b vs ∧ RDs K (dm (tot G (Fx ++ F))) H ys vs) ∧ ∃ vs, SqT K H c vs ∧ RDs K (dm (tot G (Fx ++ F))) H us vs) : JD K F G1 H1 stay (ItzT3 K a b c xs.length) (zip3L xs ys us) := by
  intro i G H Fx ob kp st
  obtain ⟨⟨va, ha, ra⟩, ⟨vb, hb, rb⟩, ⟨vc, hc, rc⟩⟩ := h G H Fx ob kp
  have n1 := ra.length
  have n2 := rb.length
  have n3 := rc.length
  unfold zip3L
  rw [List.getElem?_map]
  by_cases hi : i < xs.length
  · rw [List.getElem?_range hi]
    refine ⟨fun d hd => ?_, fun hd => (nomatch hd)⟩
    cases (Option.some.inj hd : _ = d)
    have g1 : xs[i]? = some (xs.getD i .non) := by rw [List.getD_eq_getElem?_getD, List.getElem?_eq_getElem hi]; rfl
    have g2 : ys[i]? = some (ys.getD i .non) := by rw [List.getD_eq_getElem?_getD, List.getElem?_eq_getElem (by omega)]; rfl
    have g3 : us[i]? = some (us.getD i .non) := by rw [List.getD_eq_getElem?_getD, List.getElem?_eq_getElem (by omega)]; rfl
    obtain ⟨x, hx, rx⟩ := ra.get g1
    obtain ⟨y, hy, ry⟩ := rb.get g2
    obtain ⟨u, hu, ru⟩ := rc.get g3
    refine ⟨⟨va, vb, vc, x, y, u, ha, hb, hc, hx, hy, hu, n1⟩, fun z H' ⟨T, x', y', u', e1, e2, e3, e4, e5, e6⟩ => ?_⟩
    subst e1 e3
    have f1 := e4 va ha
    rw [hx] at f1
    cases f1
    have f2 := e5 vb hb
    rw [hy] at f2
    cases f2
    have f3 := e6 vc hc
    rw [hu] at f3
    cases f3
    exact trip_new ob e2 rx ry ru
  · rw [List.getElem?_eq_none (by rw [List.length_range]; omega)]
    exact ⟨fun d hd => (nomatch hd), fun _ => ⟨va, vb, vc, ha, hb, hc, by omega, by omega, by omega, by omega⟩⟩
section
variable {X : Cx} {P : Program} {w : World} {K : PySem.W.Frag} {mg : Str → Option Value} {base : Heap} {sc : Scope} {N : List Str} {Vs : List Nat} {GN : List Str} {k : Nat}
variable {σd : Sd} {Gs : Pt} {R : RX} {pos : Pos}
/-- for .. in zip(a, b, c), three tuples of one length -/
theorem it_zipT3 {e1 e2 e3 : Expr} {elts : List Expr} {kk j : Nat} {p tpos : Pos} {Q : List D → (Pt → Prop) → Pt → Prop} (B : Bd X P w K mg base sc N Vs GN k) (hm : mg "zip" = none) (hG : At GN j ("zip" : Str))
    (h : EvA X [e1, e2, e3] σd Gs (fun ds G => ∃ xs ys us, ds = [.tup xs, .tup ys, .tup us] ∧ ys.length = xs.length ∧ us.length = xs.length ∧ Q (zip3L xs ys us) (fun _ => True) G) R)
    (hs : starEach [e1, e2, e3] X.env = (false, eval e1 X.env) :: starEach [e2, e3] X.env := by rfl) (hpl : (backTo pos (starEach [e2, e3] X.env)).any (·.1) = false := by rfl) : ItE X (.Tuple elts kk tpos) (.Call (.Name "zip" p) [e1, e2, e3] [] pos) σd Gs Q R := by
  obtain ⟨rfl, rfl, rfl, rfl, rfl, rfl, _, _, _, _, _, nm, _⟩ := B
  intro pn xe E F σ H wh hE ob sl
  obtain ⟨g1, g2, g3⟩ := nm.gl j _ hG.get
  refine (pi_zipT3 (X := X.tr pn xe) g1 hm PA.self hs hpl).get ?_
  refine h.go wh hE Keep.refl ob sl fun v H1 ds G1 ob1 k1 _ sl1 rx ⟨xs, ys, us, ex, l2, l3, q⟩ => ?_
  subst ex
  obtain ⟨v1, _, rfl, r1, v2, _, rfl, r2, v3, _, rfl, r3, rfl⟩ := rx
  obtain ⟨a, va, rfl, qa, ra⟩ := tup_sq r1
  obtain ⟨b, vb, rfl, qb, rb⟩ := tup_sq r2
  obtain ⟨c, vc, rfl, qc, rc⟩ := tup_sq r3
  have ea : va.length = xs.length := ra.length
  refine ⟨a, b, c, va, vb, vc, rfl, qa, qb, qc, zip3L xs ys us, _, G1, ob1, k1, ?_, q⟩
  rw [ea]
  refine jd_zip3 l2 l3 fun G H Fx ob' kp => ⟨?_, ?_, ?_⟩
  · obtain ⟨_, vs, e, q1, q2⟩ := tup_sq (RD.keep kp _ _ r1)
    cases e
    exact ⟨vs, q1, q2⟩
  · obtain ⟨_, vs, e, q1, q2⟩ := tup_sq (RD.keep kp _ _ r2)
    cases e
    exact ⟨vs, q1, q2⟩
  · obtain ⟨_, vs, e, q1, q2⟩ := tup_sq (RD.keep kp _ _ r3)
    cases e
    exact ⟨vs, q1, q2⟩
/-- a comprehension over range(a, b) -/
theorem ir2_ {p cpos : Pos} {j : Nat} {a b x : Expr} {T : Nat → D → List D → Pt → (Nat → List D → Pt → Prop) → Prop} {Z : List D → Pt → Prop} (B : Bd X P w K mg base sc N Vs GN k) (hm : mg "range" = none) (hG : At GN j ("range" : Str))
    (h : EvD X a σd Gs (fun d G1 => EvD X b σd G1 (fun d' G2 => ∃ m n : Int, d = .int m ∧ d' = .int n ∧ -(2 ^ 62) ≤ m ∧ m < 2 ^ 62 ∧ -(2 ^ 62) ≤ n ∧ n < 2 ^ 62 ∧ ∃ J : Nat → List D → Pt → Prop, J 0 [] G2 ∧ (∀ (i : Nat) acc G', m + (i : Int) < n → J i acc G' → T i (.int (m + (i : Nat))) acc G' J) ∧ (∀ acc G', J (n - m).toNat acc G' → Z acc G')) R) R)
    (hs : starEach [a, b] X.env = [(false, eval a X.env), (false, eval b X.env)] := by rfl) (hs2 : starEach [b] X.env = [(false, eval b X.env)] := by rfl) (hs3 : starEach [a, b] X.env = (false, eval a X.env) :: starEach [b] X.env := by rfl) (hs4 : starEach [b] X.env = (false, eval b X.env) :: starEach [] X.env := by rfl) :
    ItE X x (.Call (.Name "range" p) [a, b] [] cpos) σd Gs (fun ds stay G1 => ∃ J : Nat → List D → Pt → Prop, J 0 [] G1 ∧ (∀ i d acc G', ds[i]? = some d → J i acc G' → stay G' ∧ T i d acc G' J) ∧ (∀ acc G', J ds.length acc G' → stay G' ∧ Z acc G')) R := by
  refine rg2_ B hm hG (a_cons ?_ hs3) hs hs2
  refine EvD.imp h fun d G hb => a_cons ?_ hs4
  refine EvD.imp hb fun d' G' ⟨m, n, e1, e2, h1, h2, h3, h4, J, j0, turn, done⟩ => a_nil ⟨m, n, by rw [e1, e2], h1, h2, h3, h4, J, j0, fun i d acc G' hd hJ => ?_, fun acc G' hJ => ⟨trivial, done acc G' (by rw [rngL_len] at hJ; exact hJ)⟩⟩
  obtain ⟨hi, rfl⟩ := rngL_get hd
  exact ⟨trivial, turn i acc G' (by omega) hJ⟩
end
end Dl
namespace Dl
open PySem PySem.Spec PyProof.Rows L2
section
variable {X : Cx} {P : Program} {w : World} {K : PySem.W.Frag} {mg : Str → Option Value} {base : Heap} {sc : Scope} {N : List Str} {Vs : List Nat} {GN : List Str} {k : Nat}
variable {σd : Sd} {Gs : Pt} {Q : QD} {R : RX} {pos : Pos}
/-! ### dicts with plain keys -/
def valD {κ : Type} [DecidableEq κ] (kvs : List (κ × D)) (j : κ) : Option D := (kvs.find? fun kv => decide (kv.1 = j)).map (·.2)
theorem kd_val {κ : Type} [DecidableEq κ] {N : List Addr} {H : Hp} (j : κ) : ∀ {kvs : List (κ × D)} {kv : List (κ × V)}, KD K N H kvs kv → (valD kvs j = none ∧ valV kv j = none) ∨ ∃ d v, valD kvs j = some d ∧ valV kv j = some v ∧ RD K N H d v
  | [], kv, h => by
    cases (show kv = [] from h)
    exact .inl ⟨rfl, rfl⟩
  | (a, d) :: r, kv, h => by
    obtain ⟨v, r', rfl, rd, rr⟩ := h
    by_cases e : a = j
    · refine .inr ⟨d, v, ?_, valV_pos e, rd⟩
      unfold valD
      rw [List.find?_cons_of_pos (by simpa using e)]
      rfl
    · have ih := kd_val j rr
      have e1 : valD ((a, d) :: r) j = valD r j := by
        unfold valD
        rw [List.find?_cons_of_neg (by simpa using e)]
      rw [e1, valV_neg (p := (a, v)) e]
      exact ih
theorem rd_key {N : List Addr} {H : Hp} {j : Key} {v : V} (r : RD K N H (keyD j) v) : v = kV j := by
  cases j with
  | inl i => exact r
  | inr x => exact r
def rGet2 : V → List V → Hp → VK → Prop := fun x xs H Q => ∃ a y d o, x = .ref a ∧ xs = [y, d] ∧ DGet H a y o ∧ Q (o.getD d) H
theorem mt_dget2 (hu : X.A.units + 1 < cLine) : MtR X "dict.get" rGet2 := by
  intro pins s σ H x xs v us Q I rx rxs h
  obtain ⟨a, y, d, o, rfl, rfl, g, q⟩ := h
  cases rx
  obtain ⟨u1, u2, rfl, r1, r2⟩ := vals2 rxs
  exact d_get2 hu I g r1 r2 fun w' s' I' r => ⟨_, H, I', r, q⟩
def rGet1 : V → List V → Hp → VK → Prop := fun x xs H Q => ∃ a y o, x = .ref a ∧ xs = [y] ∧ DGet H a y o ∧ Q (o.getD .non) H
theorem mt_dget1 (hu : X.A.units + 1 < cLine) : MtR X "dict.get" rGet1 := by
  intro pins s σ H x xs v us Q I rx rxs h
  obtain ⟨a, y, o, rfl, rfl, g, q⟩ := h
  cases rx
  cases rxs with
  | cons r1 rr =>
    cases rr
    exact d_get1 hu I g r1 fun w' s' I' r => ⟨_, H, I', r, q⟩
/-- d.get(k, x) of an own dict -/
theorem m_dget2 {p : Addr} {kvs : List (Key × D)} {j : Key} {d0 : D} (B : Bd X P w K mg base sc N Vs GN k) (h : Has Gs p (.dK kvs)) (q : Q ((valD kvs j).getD d0) Gs) : MetD X "dict.get" (.ref p) [keyD j, d0] Gs Q := by
  refine ⟨rGet2, fun pn xe => mt_dget2 (X := X.tr pn xe) (hu1 (X := X) B), fun F H vx vs ob rx rs => ?_⟩
  cases (show vx = .ref p from rx)
  obtain ⟨v1, _, rfl, r1, v2, _, rfl, r2, rfl⟩ := rs
  cases rd_key r1
  obtain ⟨o, e, kv, rfl, r⟩ := ob.get h
  refine ⟨p, kV j, v2, valV kv j, rfl, rfl, DGet.k e, ?_⟩
  rcases kd_val j r with ⟨g1, g2⟩ | ⟨d, v, g1, g2, rv⟩
  · rw [g2]
    rw [g1] at q
    exact Post.of ob Keep.refl r2 q
  · rw [g2]
    rw [g1] at q
    exact Post.of ob Keep.refl rv q
theorem m_dget1 {p : Addr} {kvs : List (Key × D)} {j : Key} (B : Bd X P w K mg base sc N Vs GN k) (h : Has Gs p (.dK kvs)) (q : Q ((valD kvs j).getD .non) Gs) : MetD X "dict.get" (.ref p) [keyD j] Gs Q := by
  refine ⟨rGet1, fun pn xe => mt_dget1 (X := X.tr pn xe) (hu1 (X := X) B), fun F H vx vs ob rx rs => ?_⟩
  cases (show vx = .ref p from rx)
  obtain ⟨v1, _, rfl, r1, rfl⟩ := rs
  cases rd_key r1
  obtain ⟨o, e, kv, rfl, r⟩ := ob.get h
  refine ⟨p, kV j, valV kv j, rfl, rfl, DGet.k e, ?_⟩
  rcases kd_val j r with ⟨g1, g2⟩ | ⟨d, v, g1, g2, rv⟩
  · rw [g2]
    rw [g1] at q
    exact Post.of (d := .non) ob Keep.refl rfl q
  · rw [g2]
    rw [g1] at q
    exact Post.of ob Keep.refl rv q
def putD {κ : Type} [DecidableEq κ] (kvs : List (κ × D)) (j : κ) (d : D) : List (κ × D) := if (kvs.any fun kv => decide (kv.1 = j)) = true then kvs.map (fun kv => if kv.1 = j then (kv.1, d) else kv) else kvs ++ [(j, d)]
def dropD {κ : Type} [DecidableEq κ] (kvs : List (κ × D)) (j : κ) : List (κ × D) := kvs.filter fun kv => decide (kv.1 ≠ j)
section
variable {κ : Type} [DecidableEq κ] {N' : List Addr} {H : Hp}
theorem kd_lenV : ∀ {kvs : List (κ × D)} {kv : List (κ × V)}, KD K N' H kvs kv → kv.length = kvs.length
  | [], kv, h => by
    cases (show kv = [] from h)
    rfl
  | (a, d) :: r, kv, h => by
    obtain ⟨v, r', rfl, _, rr⟩ := h
    rw [List.length_cons, List.length_cons, kd_lenV rr]
theorem kd_any (j : κ) : ∀ {kvs : List (κ × D)} {kv : List (κ × V)}, KD K N' H kvs kv → (kv.any fun x => decide (x.1 = j)) = (kvs.any fun x => decide (x.1 = j))
  | [], kv, h => by
    cases (show kv = [] from h)
    rfl
  | (a, d) :: r, kv, h => by
    obtain ⟨v, r', rfl, _, rr⟩ := h
    rw [List.any_cons, List.any_cons, kd_any j rr]
theorem kd_app {d : D} {v : V} (j : κ) (rd : RD K N' H d v) : ∀ {kvs : List (κ × D)} {kv : List (κ × V)}, KD K N' H kvs kv → KD K N' H (kvs ++ [(j, d)]) (kv ++ [(j, v)])
  | [], kv, h => by
    cases (show kv = [] from h)
    exact ⟨v, [], rfl, rd, rfl⟩
  | (a, d') :: r, kv, h => by
    obtain ⟨v', r', rfl, r1, rr⟩ := h
    exact ⟨v', _, rfl, r1, kd_app j rd rr⟩
theorem kd_map {d : D} {v : V} (j : κ) (rd : RD K N' H d v) : ∀ {kvs : List (κ × D)} {kv : List (κ × V)}, KD K N' H kvs kv → KD K N' H (kvs.map fun x => if x.1 = j then (x.1, d) else x) (kv.map fun x => if x.1 = j then (x.1, v) else x)
  | [], kv, h => by
    cases (show kv = [] from h)
    rfl
  | (a, d') :: r, kv, h => by
    obtain ⟨v', r', rfl, r1, rr⟩ := h
    have ih := kd_map j rd rr
    rw [List.map_cons, List.map_cons]
    by_cases e : a = j
    · rw [if_pos e, if_pos e]
      exact ⟨v, _, rfl, rd, ih⟩
    · rw [if_neg e, if_neg e]
      exact ⟨v', _, rfl, r1, ih⟩
theorem kd_put {d : D} {v : V} (j : κ) (rd : RD K N' H d v) {kvs : List (κ × D)} {kv : List (κ × V)} (h : KD K N' H kvs kv) : KD K N' H (putD kvs j d) (putK kv j v) := by
  unfold putD putK
  rw [kd_any j h]
  split
  · exact kd_map j rd h
  · exact kd_app j rd h
theorem kd_drop (j : κ) : ∀ {kvs : List (κ × D)} {kv : List (κ × V)}, KD K N' H kvs kv → KD K N' H (dropD kvs j) (dropK kv j)
  | [], kv, h => by
    cases (show kv = [] from h)
    rfl
  | (a, d') :: r, kv, h => by
    obtain ⟨v', r', rfl, r1, rr⟩ := h
    have ih := kd_drop j rr
    unfold dropD dropK at ih ⊢
    by_cases e : a = j
    · rw [List.filter_cons_of_neg (by simpa using e), List.filter_cons_of_neg (by simpa using e)]
      exact ih
    · rw [List.filter_cons_of_pos (by simpa using e), List.filter_cons_of_pos (by simpa using e)]
      exact ⟨v', _, rfl, r1, ih⟩
end
/-- p[k] = d, an own dict -/
theorem set_dct {p : Addr} {kvs : List (Key × D)} {j : Key} {d : D} {Gs' : Pt} {Z : Pt → Prop} (B : Bd X P w K mg base sc N Vs GN k) (u : Upd Gs p (.dK kvs) (.dK (putD kvs j d)) Gs') (hz : kvs.length < sizeLine) (q : Z Gs') : SetD X (.ref p) (keyD j) d Gs Z := by
  refine ⟨rSetD, fun pn xe => set_dict (X := X.tr pn xe) (hu1 (X := X) B), fun F H vo vi v ob ro ri rv => ?_⟩
  cases (show vo = .ref p from ro)
  cases rd_key ri
  obtain ⟨o, e, kv, rfl, r⟩ := ob.get u.has
  refine ⟨p, _, rfl, .inl ⟨kv, j, e, rfl, by rw [kd_lenV r]; exact hz, rfl⟩, Gs', ob.upd (m' := .dK (putD kvs j d)) u ⟨_, rfl, kd_put j rv r⟩, Keep.updD u, q⟩
def rPop2 : V → List V → Hp → VK → Prop := fun x xs H Q => ∃ a kvs j d0, x = .ref a ∧ xs = [kV j, d0] ∧ H a = some (.dK kvs) ∧ (∀ v, valV kvs j = some v → Q v (L2.upd H a (.dK (dropK kvs j)))) ∧ (valV kvs j = none → Q d0 H)
theorem mt_dpop2 : MtR X "dict.pop" rPop2 := by
  intro pins s σ H x xs v us Q I rx rxs h
  obtain ⟨a, kvs, j, d0, rfl, rfl, e, q1, q2⟩ := h
  cases rx
  obtain ⟨u1, u2, rfl, r1, r2⟩ := vals2 rxs
  cases l : valV kvs j with
  | some v => exact d_pop I e r1 l (.inr ⟨u2, rfl⟩) fun w' s' I' rw' => ⟨v, _, I', rw', q1 v l⟩
  | none => exact d_popD I e r1 l fun s' I' => ⟨d0, H, I', r2, q2 l⟩
def rPop1 : V → List V → Hp → VK → Prop := fun x xs H Q => ∃ a kvs j v, x = .ref a ∧ xs = [kV j] ∧ H a = some (.dK kvs) ∧ valV kvs j = some v ∧ Q v (L2.upd H a (.dK (dropK kvs j)))
theorem mt_dpop1 : MtR X "dict.pop" rPop1 := by
  intro pins s σ H x xs v us Q I rx rxs h
  obtain ⟨a, kvs, j, v, rfl, rfl, e, l, q⟩ := h
  cases rx
  cases rxs with
  | cons r1 rr =>
    cases rr
    exact d_pop I e r1 l (.inl rfl) fun w' s' I' rw' => ⟨v, _, I', rw', q⟩
/-- d.pop(k, x) of an own dict: the entry goes -/
theorem m_dpop2 {p : Addr} {kvs : List (Key × D)} {j : Key} {d0 : D} {Gs' : Pt} (u : Upd Gs p (.dK kvs) (.dK (dropD kvs j)) Gs') (q1 : ∀ d, valD kvs j = some d → Q d Gs') (q2 : valD kvs j = none → Q d0 Gs) : MetD X "dict.pop" (.ref p) [keyD j, d0] Gs Q := by
  refine ⟨rPop2, fun pn xe => mt_dpop2 (X := X.tr pn xe), fun F H vx vs ob rx rs => ?_⟩
  cases (show vx = .ref p from rx)
  obtain ⟨v1, _, rfl, r1, v2, _, rfl, r2, rfl⟩ := rs
  cases rd_key r1
  obtain ⟨o, e, kv, rfl, r⟩ := ob.get u.has
  refine ⟨p, kv, j, v2, rfl, rfl, e, fun v hv => ?_, fun hn => ?_⟩
  · rcases kd_val j r with ⟨g1, g2⟩ | ⟨d, v', g1, g2, rv⟩
    · rw [g2] at hv
      cases hv
    · rw [g2] at hv
      cases hv
      have ob' := ob.upd (m' := .dK (dropD kvs j)) u ⟨_, rfl, kd_drop j r⟩
      exact Post.of ob' (Keep.updD u) (RD.keep (Keep.updD u) _ _ rv) (q1 d g1)
  · rcases kd_val j r with ⟨g1, g2⟩ | ⟨d, v', g1, g2, rv⟩
    · exact Post.of ob Keep.refl r2 (q2 g1)
    · rw [g2] at hn
      cases hn
theorem m_dpop1 {p : Addr} {kvs : List (Key × D)} {j : Key} {d : D} {Gs' : Pt} (u : Upd Gs p (.dK kvs) (.dK (dropD kvs j)) Gs') (hj : valD kvs j = some d) (q : Q d Gs') : MetD X "dict.pop" (.ref p) [keyD j] Gs Q := by
  refine ⟨rPop1, fun pn xe => mt_dpop1 (X := X.tr pn xe), fun F H vx vs ob rx rs => ?_⟩
  cases (show vx = .ref p from rx)
  obtain ⟨v1, _, rfl, r1, rfl⟩ := rs
  cases rd_key r1
  obtain ⟨o, e, kv, rfl, r⟩ := ob.get u.has
  rcases kd_val j r with ⟨g1, g2⟩ | ⟨d', v', g1, g2, rv⟩
  · rw [g1] at hj
    cases hj
  · rw [g1] at hj
    cases hj
    have ob' := ob.upd (m' := .dK (dropD kvs j)) u ⟨_, rfl, kd_drop j r⟩
    exact ⟨p, kv, j, v', rfl, rfl, e, g2, Post.of ob' (Keep.updD u) (RD.keep (Keep.updD u) _ _ rv) q⟩
theorem rd_keyV {N' : List Addr} {H : Hp} : ∀ j : Key, RD K N' H (keyD j) (kV j)
  | .inl _ => rfl
  | .inr _ => rfl
theorem kd_keys {N' N2 : List Addr} {H H2 : Hp} : ∀ {kvs : List (Key × D)} {kv : List (Key × V)}, KD K N' H kvs kv → RDs K N2 H2 (kvs.map fun x => keyD x.1) (kv.map fun x => kV x.1)
  | [], kv, h => by
    cases (show kv = [] from h)
    rfl
  | (a, d) :: r, kv, h => by
    obtain ⟨v, r', rfl, _, rr⟩ := h
    exact ⟨kV a, _, rfl, rd_keyV a, kd_keys rr⟩
/-- list(d) of an own dict: its keys -/
theorem k_listD {p : Addr} {kvs : List (Key × D)} (B : Bd X P w K mg base sc N Vs GN k) (h : Has Gs p (.dK kvs)) (q : Q (.lst (kvs.map fun x => keyD x.1)) Gs) : CalD X (.type "list") [.ref p] Gs Q := ⟨rListD, fun pn xe => call_list_dK (X := X.tr pn xe) B.calm, fun F H vs ob r => by
  obtain ⟨v, _, rfl, rv, rfl⟩ := r
  cases (show v = .ref p from rv)
  obtain ⟨o, e, kv, rfl, rr⟩ := ob.get h
  refine ⟨p, kv, rfl, e, fun l hl => ?_⟩
  have kp := Keep.newF (N := dm (tot Gs F)) (o := .lst (kv.map fun x => kV x.1)) hl
  exact Post.of (d := .lst (kvs.map fun x => keyD x.1)) (ob.newF hl) kp ⟨l, _, rfl, ob.mem_none hl, upd_same, kd_keys rr⟩ q⟩
/-! the same, the key a text -/
theorem m_dget2S {p : Addr} {kvs : List (Key × D)} {x : Str} {d0 : D} (B : Bd X P w K mg base sc N Vs GN k) (h : Has Gs p (.dK kvs)) (q : Q ((valD kvs (.inr x)).getD d0) Gs) : MetD X "dict.get" (.ref p) [.str x, d0] Gs Q := m_dget2 (j := .inr x) B h q
theorem m_dget1S {p : Addr} {kvs : List (Key × D)} {x : Str} (B : Bd X P w K mg base sc N Vs GN k) (h : Has Gs p (.dK kvs)) (q : Q ((valD kvs (.inr x)).getD .non) Gs) : MetD X "dict.get" (.ref p) [.str x] Gs Q := m_dget1 (j := .inr x) B h q
theorem m_dpop1S {p : Addr} {kvs : List (Key × D)} {x : Str} {d : D} {Gs' : Pt} (u : Upd Gs p (.dK kvs) (.dK (dropD kvs (.inr x))) Gs') (hj : valD kvs (.inr x) = some d) (q : Q d Gs') : MetD X "dict.pop" (.ref p) [.str x] Gs Q := m_dpop1 (j := .inr x) u hj q
theorem set_dctS {p : Addr} {kvs : List (Key × D)} {x : Str} {d : D} {Gs' : Pt} {Z : Pt → Prop} (B : Bd X P w K mg base sc N Vs GN k) (u : Upd Gs p (.dK kvs) (.dK (putD kvs (.inr x) d)) Gs') (hz : kvs.length < sizeLine) (q : Z Gs') : SetD X (.ref p) (.str x) d Gs Z := set_dct (j := .inr x) B u hz q
end
end Dl
namespace Dl
open PySem PySem.Spec PyProof.Rows L2
section
variable {X : Cx} {P : Program} {w : World} {K : PySem.W.Frag} {mg : Str → Option Value} {base : Heap} {sc : Scope} {N : List Str} {Vs : List Nat} {GN : List Str} {k : Nat}
variable {σd : Sd} {Gs : Pt} {Q : QD} {R : RX} {pos : Pos}
/-! ### str(int), `in` of texts -/
theorem k_strI {i : Int} (h : i.natAbs.log2 < 1920) (q : Q (.str (toString i)) Gs) : CalD X (.type "str") [.int i] Gs Q := ⟨_, fun pn xe => call_str_int, fun F H vs ob r => by
  obtain ⟨v, _, rfl, rv, rfl⟩ := r
  cases (show v = .int i from rv)
  exact ⟨i, rfl, h, Post.of (d := .str (toString i)) ob Keep.refl rfl q⟩⟩
theorem eqv_str {x y : Str} : PyData.eqv (.str x) (.str y) = decide (x = y) := by
  by_cases h : x = y <;> simp [PyData.eqv, h]
theorem any_strs {x : Str} : ∀ l : List Str, ((pds (l.map D.str)).any fun z => PyData.eqv z (.str x)) = decide (x ∈ l)
  | [] => rfl
  | y :: l => by
    rw [List.map_cons]
    show ((pd (.str y) :: pds (l.map D.str)).any fun z => PyData.eqv z (.str x)) = _
    rw [List.any_cons, any_strs l]
    show (PyData.eqv (.str y) (.str x) || _) = _
    rw [eqv_str]
    by_cases h : y = x
    · simp [h]
    · simp [h, Ne.symm h, eq_comm]
theorem sh_strs {l : List Str} (h : ∀ x ∈ l, PyData.strOk x = true) : shN 1 (.lst (l.map D.str)) = true := by
  simp only [shN, List.all_map, List.all_eq_true]
  intro x hx
  exact h x hx
theorem c_ninS {x : Str} {l : List Str} (B : Bd X P w K mg base sc N Vs GN k) (hx : PyData.strOk x = true) (hl : ∀ y ∈ l, PyData.strOk y = true) (q : Q (.bl (!decide (x ∈ l))) Gs) : CmpD X .NotIn (.str x) (.lst (l.map .str)) Gs Q := by
  have h1 : shN 1 (.str x) = true := hx
  have h2 := sh_strs hl
  refine c_ninD B (pd_val h1) (pd_val h2) (shp h1 (by decide)) (shp h2 (by decide)) ?_
  show Q (.bl (!(pds (l.map D.str)).any fun z => PyData.eqv z (.str x))) Gs
  rw [any_strs]
  exact q
theorem c_inS {x : Str} {l : List Str} (B : Bd X P w K mg base sc N Vs GN k) (hx : PyData.strOk x = true) (hl : ∀ y ∈ l, PyData.strOk y = true) (q : Q (.bl (decide (x ∈ l))) Gs) : CmpD X .In (.str x) (.lst (l.map .str)) Gs Q := by
  have h1 : shN 1 (.str x) = true := hx
  have h2 := sh_strs hl
  refine c_inD B (pd_val h1) (pd_val h2) (shp h1 (by decide)) (shp h2 (by decide)) ?_
  show Q (.bl ((pds (l.map D.str)).any fun z => PyData.eqv z (.str x))) Gs
  rw [any_strs]
  exact q
end
/-! ### reading a dict that was changed -/
section
variable {κ : Type} [DecidableEq κ]
theorem valD_cons {a : κ} {d : D} {r : List (κ × D)} {j : κ} : valD ((a, d) :: r) j = if a = j then some d else valD r j := by
  unfold valD
  by_cases e : a = j
  · rw [List.find?_cons_of_pos (by simpa using e), if_pos e]
    rfl
  · rw [List.find?_cons_of_neg (by simpa using e), if_neg e]
theorem valD_append {l m : List (κ × D)} {j : κ} : valD (l ++ m) j = (valD l j).or (valD m j) := by
  induction l with
  | nil => rfl
  | cons a l ih =>
    obtain ⟨a, d⟩ := a
    rw [List.cons_append, valD_cons, valD_cons, ih]
    split <;> rfl
theorem valD_map {d : D} {j i : κ} : ∀ l : List (κ × D), valD (l.map fun kv => if kv.1 = j then (kv.1, d) else kv) i = if i = j then (valD l i).map (fun _ => d) else valD l i
  | [] => by
    rw [List.map_nil]
    split <;> rfl
  | (a, e) :: l => by
    rw [List.map_cons]
    by_cases h : a = j
    · rw [if_pos h]
      show valD ((a, d) :: _) i = _
      rw [valD_cons, valD_cons, valD_map l]
      by_cases g : a = i
      · rw [if_pos g, if_pos g, if_pos (g ▸ h)]
        rfl
      · rw [if_neg g, if_neg g]
    · rw [if_neg h]
      show valD ((a, e) :: _) i = _
      rw [valD_cons, valD_cons, valD_map l]
      by_cases g : a = i
      · rw [if_pos g, if_pos g, if_neg (fun z => h (g.trans z))]
      · rw [if_neg g, if_neg g]
theorem valD_none {l : List (κ × D)} {j : κ} : valD l j = none ↔ j ∉ l.map (·.1) := by
  induction l with
  | nil => simp [valD]
  | cons a l ih =>
    obtain ⟨a, d⟩ := a
    rw [valD_cons, List.map_cons, List.mem_cons]
    by_cases h : a = j
    · simp [h]
    · rw [if_neg h, ih]
      simp [Ne.symm h]
theorem any_key {l : List (κ × D)} {j : κ} : (l.any fun kv => decide (kv.1 = j)) = decide (j ∈ l.map (·.1)) := by
  induction l with
  | nil => rfl
  | cons a l ih =>
    obtain ⟨a, d⟩ := a
    rw [List.any_cons, ih, List.map_cons]
    by_cases h : a = j
    · simp [h]
    · simp [h, Ne.symm h]
theorem valD_put {l : List (κ × D)} {j i : κ} {d : D} : valD (putD l j d) i = if i = j then some d else valD l i := by
  unfold putD
  rw [any_key]
  by_cases h : j ∈ l.map (·.1)
  · rw [if_pos (by simpa using h), valD_map]
    by_cases e : i = j
    · subst e
      rw [if_pos rfl, if_pos rfl]
      cases g : valD l i with
      | none => exact absurd h (valD_none.mp g)
      | some x => rfl
    · rw [if_neg e, if_neg e]
  · rw [if_neg (by simpa using h), valD_append]
    by_cases e : i = j
    · subst e
      rw [valD_none.mpr h, if_pos rfl]
      show valD [(i, d)] i = _
      rw [valD_cons, if_pos rfl]
    · rw [if_neg e]
      have : valD [(j, d)] i = none := by
        rw [valD_cons, if_neg (Ne.symm e)]
        rfl
      rw [this]
      cases valD l i <;> rfl
theorem keys_put {l : List (κ × D)} {j : κ} {d : D} : (putD l j d).map (·.1) = if j ∈ l.map (·.1) then l.map (·.1) else l.map (·.1) ++ [j] := by
  unfold putD
  rw [any_key]
  by_cases h : j ∈ l.map (·.1)
  · rw [if_pos (by simpa using h), if_pos h, List.map_map]
    refine List.map_congr_left fun kv _ => ?_
    show (if kv.1 = j then (kv.1, d) else kv).1 = kv.1
    split <;> rfl
  · rw [if_neg (by simpa using h), if_neg h, List.map_append]
    rfl
theorem nd_put {l : List (κ × D)} {j : κ} {d : D} (h : (l.map (·.1)).Nodup) : ((putD l j d).map (·.1)).Nodup := by
  rw [keys_put]
  split
  · exact h
  · rename_i g
    rw [List.nodup_append]
    refine ⟨h, by simp, fun a ha b hb => ?_⟩
    rw [List.mem_singleton] at hb
    subst hb
    exact fun e => g (e ▸ ha)
theorem len_put {l : List (κ × D)} {j : κ} {d : D} : (putD l j d).length ≤ l.length + 1 := by
  unfold putD
  split
  · rw [List.length_map]; omega
  · rw [List.length_append]; exact Nat.le_refl _
theorem valD_drop {l : List (κ × D)} {j i : κ} : valD (dropD l j) i = if i = j then none else valD l i := by
  unfold dropD
  induction l with
  | nil => split <;> rfl
  | cons a l ih =>
    obtain ⟨a, d⟩ := a
    by_cases h : a = j
    · rw [List.filter_cons_of_neg (by simpa using h), ih, valD_cons]
      by_cases e : i = j
      · rw [if_pos e, if_pos e]
      · rw [if_neg e, if_neg e, if_neg (fun z => e (z.symm.trans h))]
    · rw [List.filter_cons_of_pos (by simpa using h), valD_cons, ih, valD_cons]
      by_cases e : a = i
      · rw [if_pos e, if_pos e, if_neg (fun z => h (e.trans z))]
      · rw [if_neg e, if_neg e]
theorem keys_drop {l : List (κ × D)} {j : κ} : (dropD l j).map (·.1) = (l.map (·.1)).filter fun x => decide (x ≠ j) := by
  unfold dropD
  rw [List.filter_map]
  rfl
theorem nd_drop {l : List (κ × D)} {j : κ} (h : (l.map (·.1)).Nodup) : ((dropD l j).map (·.1)).Nodup := by
  rw [keys_drop]
  exact h.filter _
theorem len_drop {l : List (κ × D)} {j : κ} : (dropD l j).length ≤ l.length := List.length_filter_le ..
theorem valD_mem {l : List (κ × D)} {j : κ} {d : D} (h : valD l j = some d) : (j, d) ∈ l := by
  induction l with
  | nil => cases h
  | cons a l ih =>
    obtain ⟨a, e⟩ := a
    rw [valD_cons] at h
    split at h
    · rename_i g
      cases h
      subst g
      exact List.mem_cons_self
    · exact List.mem_cons_of_mem _ (ih h)
end
end Dl
namespace Dl
open PySem PySem.Spec PyProof.Rows L2
section
variable {X : Cx} {P : Program} {w : World} {K : PySem.W.Frag} {mg : Str → Option Value} {base : Heap} {sc : Scope} {N : List Str} {Vs : List Nat} {GN : List Str} {k : Nat}
variable {σd : Sd} {Gs : Pt} {Q : QD} {R : RX} {pos : Pos} {a b : Expr}
/-! ### texts: signs in texts, order, how often, repeated -/
theorem c_inSg {c : Nat} {z : Str} (q : Q (.bl (decide (c ∈ z.cps.toList))) Gs) : CmpD X .In (.str (S [c])) (.str z) Gs Q := ⟨_, fun pn xe => op_in_sign, fun F H vx vy ob rx ry => by
  cases (show vx = .str (S [c]) from rx)
  cases (show vy = .str z from ry)
  exact ⟨c, z, rfl, rfl, Post.of (d := .bl (decide (c ∈ z.cps.toList))) ob Keep.refl rfl q⟩⟩
theorem c_ninSg {c : Nat} {z : Str} (q : Q (.bl (!decide (c ∈ z.cps.toList))) Gs) : CmpD X .NotIn (.str (S [c])) (.str z) Gs Q := ⟨_, fun pn xe => op_notIn_sign, fun F H vx vy ob rx ry => by
  cases (show vx = .str (S [c]) from rx)
  cases (show vy = .str z from ry)
  exact ⟨c, z, rfl, rfl, Post.of (d := .bl (!decide (c ∈ z.cps.toList))) ob Keep.refl rfl q⟩⟩
/-- one text ahead of another one -/
def ltS (x y : Str) : Bool := decide (x.cps.toList < y.cps.toList)
theorem c_leS {x y : Str} (q : Q (.bl (!ltS y x)) Gs) : CmpD X .LtE (.str x) (.str y) Gs Q := ⟨_, fun pn xe => op_le_str, fun F H vx vy ob rx ry => by
  cases (show vx = .str x from rx)
  cases (show vy = .str y from ry)
  exact ⟨x, y, rfl, rfl, Post.of (d := .bl (!ltS y x)) ob Keep.refl rfl q⟩⟩
theorem c_gtS {x y : Str} (q : Q (.bl (ltS y x)) Gs) : CmpD X .Gt (.str x) (.str y) Gs Q := ⟨_, fun pn xe => op_gt_str, fun F H vx vy ob rx ry => by
  cases (show vx = .str x from rx)
  cases (show vy = .str y from ry)
  exact ⟨x, y, rfl, rfl, Post.of (d := .bl (ltS y x)) ob Keep.refl rfl q⟩⟩
theorem m_count {x y : Str} (q : Q (.int (Txt.count x y)) Gs) : MetD X "str.count" (.str x) [.str y] Gs Q := by
  refine ⟨_, fun pn xe => mt_count, fun F H vx vs ob rx rs => ?_⟩
  cases (show vx = .str x from rx)
  obtain ⟨v1, _, rfl, r1, rfl⟩ := rs
  cases (show v1 = .str y from r1)
  exact ⟨x, y, rfl, rfl, Post.of (d := .int (Txt.count x y)) ob Keep.refl rfl q⟩
theorem ltS_one {c d : Nat} : ltS (S [c]) (S [d]) = decide (c < d) := by
  unfold ltS
  show decide ([c] < [d]) = _
  congr 1
  rw [eq_iff_iff]
  constructor
  · intro h
    cases h with
    | rel h => exact h
    | cons h => cases h
  · exact fun h => List.Lex.rel h
theorem occ_cnt (x : Str) (c : Nat) : ∀ (m k f : Nat) (arr : Array Nat), f ≤ k → arr.size ≤ k → k + m ≤ x.length + 1 →
    (forIn (List.range' k m) (arr, f) (PySem.StrLaws.occBody x ⟨#[c]⟩ x.length (x.length + 1))).run.fst.size = arr.size + ((List.range' k m).filter fun i => decide (i + 1 ≤ x.length) && Builtin.Str.subAt x ⟨#[c]⟩ i).length
  | 0, k, f, arr, _, _, _ => by simp
  | m + 1, k, f, arr, hf, ha, hk => by
    rw [List.range'_succ, List.forIn_cons]
    unfold PySem.StrLaws.occBody
    by_cases h : k + 1 ≤ x.length ∧ Builtin.Str.subAt x ⟨#[c]⟩ k = true
    · rw [if_pos ⟨⟨⟨by show arr.size < _; omega, hf⟩, h.1⟩, h.2⟩, List.filter_cons_of_pos (by rw [decide_eq_true h.1, h.2]; rfl)]
      show (forIn (List.range' (k + 1) m) (arr.push k, k + 1) (PySem.StrLaws.occBody x ⟨#[c]⟩ x.length (x.length + 1))).run.fst.size = _
      rw [occ_cnt x c m (k + 1) (k + 1) _ (Nat.le_refl _) (by rw [Array.size_push]; omega) (by omega), Array.size_push, List.length_cons]
      omega
    · rw [if_neg (fun z => h ⟨z.1.2, z.2⟩), List.filter_cons_of_neg (by rw [Bool.and_eq_true, decide_eq_true_eq]; exact h)]
      show (forIn (List.range' (k + 1) m) (arr, f) (PySem.StrLaws.occBody x ⟨#[c]⟩ x.length (x.length + 1))).run.fst.size = _
      exact occ_cnt x c m (k + 1) f arr (by omega) (by omega) (by omega)
end
theorem S_tl (z : Str) : S z.cps.toList = z := rfl
theorem cnt_range (c : Nat) : ∀ l : List Nat, ((List.range (l.length + 1)).filter fun i => decide (l[i]? = some c)).length = (l.filter fun d => decide (d = c)).length
  | [] => rfl
  | a :: l => by
    have e : (fun i => decide ((a :: l)[i]? = some c)) ∘ Nat.succ = fun i => decide (l[i]? = some c) := by
      funext i
      show decide ((a :: l)[i + 1]? = some c) = _
      rw [List.getElem?_cons_succ]
    have ih := cnt_range c l
    rw [List.length_cons, List.range_succ_eq_map]
    by_cases h : a = c
    · rw [List.filter_cons_of_pos (by simpa using h), List.filter_cons_of_pos (by simpa using h), List.length_cons, List.length_cons, List.filter_map, List.length_map, e, ih]
    · rw [List.filter_cons_of_neg (by simpa using h), List.filter_cons_of_neg (by simpa using h), List.filter_map, List.length_map, e, ih]
theorem count_one (l : List Nat) (c : Nat) : Txt.count (S l) (S [c]) = ((l.filter fun d => decide (d = c)).length : Nat) := by
  have e0 : Txt.count (S l) (S [c]) = (((Builtin.Str.occurrences (S l) ⟨#[c]⟩ 0 (S l).length ((S l).length + 1)).length : Nat) : Int) := rfl
  rw [e0, PySem.StrLaws.occ_eq, Array.length_toList, Nat.sub_zero, occ_cnt (S l) c _ 0 0 #[] (Nat.le_refl _) (Nat.le_refl _) (by omega)]
  have e1 : (fun i => decide (i + 1 ≤ (S l).length) && Builtin.Str.subAt (S l) ⟨#[c]⟩ i) = fun i => decide (l[i]? = some c) := by
    funext i
    rw [Bool.eq_iff_iff, Bool.and_eq_true, decide_eq_true_eq, decide_eq_true_eq]
    exact PySem.StrLaws.subAt_one (S l) c i
  rw [e1, ← List.range_eq_range', S_len, cnt_range]
  simp
/-! ### tuples -/
theorem inV_str {x : Str} : ∀ l : List Str, inV (.str x) (l.map V.str) = decide (x ∈ l)
  | [] => rfl
  | y :: l => by
    have ih := inV_str (x := x) l
    unfold inV at ih ⊢
    rw [List.map_cons, List.any_cons, ih]
    show ((y == x) || _) = _
    by_cases h : y = x
    · simp [h]
    · have : (y == x) = false := beq_eq_false_iff_ne.mpr h
      simp [this, Ne.symm h]
theorem flat_strs' : ∀ l : List Str, (l.map V.str).all flatV = true
  | [] => rfl
  | _ :: l => by
    rw [List.map_cons, List.all_cons, flat_strs' l]
    rfl
section
variable {X : Cx} {P : Program} {w : World} {K : PySem.W.Frag} {mg : Str → Option Value} {base : Heap} {sc : Scope} {N : List Str} {Vs : List Nat} {GN : List Str} {k : Nat}
variable {σd : Sd} {Gs : Pt} {Q : QD} {R : RX} {pos : Pos} {a b : Expr}
theorem c_inT {x : Str} {l : List Str} (q : Q (.bl (decide (x ∈ l))) Gs) : CmpD X .In (.str x) (.tup (l.map .str)) Gs Q := ⟨rIn X.K false, fun pn xe => op_in_seq, fun F H vx vy ob rx ry => by
  cases (show vx = .str x from rx)
  obtain ⟨p, vs, rfl, t, r⟩ := tup_sq ry
  have e := strs_rel r
  subst e
  refine ⟨p, _, rfl, .inr t, rfl, flat_strs' l, ?_⟩
  rw [if_neg (by decide), inV_str]
  exact Post.of (d := .bl (decide (x ∈ l))) ob Keep.refl rfl q⟩
theorem b_catT {xs ys : List D} (hz : xs.length + ys.length ≤ sizeLine) (q : Q (.tup (xs ++ ys)) Gs) : BinD X .Add (.tup xs) (.tup ys) Gs Q := ⟨rCatA X.K, fun pn xe => op_catA, fun F H vx vy ob rx ry => by
  have rx0 := rx
  have ry0 := ry
  obtain ⟨a, vs, rfl, t, r⟩ := tup_sq rx
  obtain ⟨b, us, rfl, t2, r2⟩ := tup_sq ry
  have l1 := r.length
  have l2 := r2.length
  refine ⟨a, b, vs, us, rfl, rfl, t, t2, by omega, fun e => ?_, fun _ e => ?_, fun _ _ p hp => ?_⟩
  · have : xs = [] := List.length_eq_zero_iff.mp (by rw [← l1, e]; rfl)
    subst this
    exact Post.of (d := .tup ([] ++ ys)) ob Keep.refl ry0 q
  · have : ys = [] := List.length_eq_zero_iff.mp (by rw [← l2, e]; rfl)
    subst this
    exact Post.of (d := .tup (xs ++ [])) ob Keep.refl (by rw [List.append_nil]; exact rx0) q
  · exact Post.of (d := .tup (xs ++ ys)) (ob.newF hp) (Keep.newF hp) ⟨p, _, rfl, .inl ⟨ob.mem_none hp, .inl upd_same⟩, RDs.append (RDs.keep (Keep.newF hp) _ _ r) (RDs.keep (Keep.newF hp) _ _ r2)⟩ q⟩
/-- a slice of a tuple, the whole of it too -/
theorem si_tupA {ds : List D} {lo hi : Option Int} (q : Q (.tup (cutD ds lo hi)) Gs) : SliD X (.tup ds) lo hi Gs Q := by
  refine ⟨rSlA X.K, fun pn xe => sl_tupA, fun F H vx ob rx => ?_⟩
  have rx0 := rx
  obtain ⟨a, vs, rfl, t, r⟩ := tup_sq rx
  refine ⟨a, vs, rfl, t, fun hw => ?_, fun _ p hp => ?_⟩
  · have e : cutD ds lo hi = ds := by
      rw [r.length] at hw
      unfold cutD
      rw [hw.1, hw.2, List.drop_zero, Nat.sub_zero, List.take_length]
    rw [e] at q
    exact Post.of ob Keep.refl rx0 q
  · exact Post.of (d := .tup (cutD ds lo hi)) (ob.newF hp) (Keep.newF hp) ⟨p, _, rfl, .inl ⟨ob.mem_none hp, .inl upd_same⟩, RDs.keep (Keep.newF hp) _ _ (cut_rel r lo hi)⟩ q
theorem bls_rel {N : List Addr} {H : Hp} : ∀ {ns : List Bool} {vs : List V}, RDs K N H (ns.map D.bl) vs → vs = ns.map V.bl
  | [], _, r => r
  | n :: ns, _, r => by
    obtain ⟨v, vs, rfl, rv, rr⟩ := r
    rw [show v = V.bl n from rv, bls_rel rr]
    rfl
theorem k_all {x : D} {ns : List Bool} (B : Bd X P w K mg base sc N Vs GN k) (hx : LsD X.K Gs x (ns.map D.bl)) (q : Q (.bl (ns.all id)) Gs) : CalD X (.builtin "all") [x] Gs Q := ⟨rAll X.K, fun pn xe => cr_all (X := X.tr pn xe) B.calm, fun F H vs ob r => by
  obtain ⟨v, _, rfl, r1, rfl⟩ := r
  obtain ⟨a, vs, rfl, h1, r2⟩ := hx F H v ob r1
  have e := bls_rel r2
  subst e
  exact ⟨a, ns, rfl, .inl (.inl h1), Post.of (d := .bl _) ob Keep.refl rfl q⟩⟩
theorem k_any {x : D} {ns : List Bool} (B : Bd X P w K mg base sc N Vs GN k) (hx : LsD X.K Gs x (ns.map D.bl)) (q : Q (.bl (ns.any id)) Gs) : CalD X (.builtin "any") [x] Gs Q := ⟨rAny X.K, fun pn xe => cr_any (X := X.tr pn xe) B.calm, fun F H vs ob r => by
  obtain ⟨v, _, rfl, r1, rfl⟩ := r
  obtain ⟨a, vs, rfl, h1, r2⟩ := hx F H v ob r1
  have e := bls_rel r2
  subst e
  exact ⟨a, ns, rfl, .inl (.inl h1), Post.of (d := .bl _) ob Keep.refl rfl q⟩⟩
end
end Dl
namespace Dl
open PySem PySem.Spec PyProof.Rows L2
/-! ### len(set(t)), t a tuple of texts: as many as there are, just if all are others -/
section
variable {P : Program} {w : World} {A : Around} {E : Value → Shared → Prop} {s : Shared}
/-- the set at a of the first i texts -/
def SetN (P : Program) (w : World) (h : Heap) (a : Addr) (xs : List Str) (i : Nat) : Prop := ∃ c, c ≤ i ∧ (c = i ↔ (xs.take i).Nodup) ∧ h.SetOf (strKind P w) a (fun k => decide (k ∈ xs.take i)) c
theorem SetN.keep {h h' : Heap} {a : Addr} {xs : List Str} {i : Nat} (x : SetN P w h a xs i) (k : ∀ o, h.get? a = some o → h'.get? a = some o) : SetN P w h' a xs i := by
  obtain ⟨c, c1, c2, o, es, ep, t, ho, r⟩ := x
  exact ⟨c, c1, c2, o, es, ep, t, k o ho, r⟩
theorem take_snoc {xs : List Str} {i : Nat} {z : Str} (h : xs[i]? = some z) : xs.take (i + 1) = xs.take i ++ [z] := by
  rw [List.take_add_one, h]
  rfl
theorem SetN.next {h : Heap} {a : Addr} {xs : List Str} {i c : Nat} {z : Str} (hz : xs[i]? = some z) (c1 : c ≤ i) (c2 : c = i ↔ (xs.take i).Nodup)
    (x : h.SetOf (strKind P w) a (fun k => decide (k ∈ xs.take i) || decide (k = z)) (if decide (z ∈ xs.take i) = true then c else c + 1)) : SetN P w h a xs (i + 1) := by
  refine ⟨_, ?_, ?_, PyProof.Rows.SetOf_congr x (fun k => ?_) rfl⟩
  · split <;> omega
  · rw [take_snoc hz, List.nodup_append]
    by_cases g : z ∈ xs.take i
    · rw [if_pos (decide_eq_true g)]
      constructor
      · intro e
        omega
      · intro e
        exact absurd rfl (e.2.2 z g z List.mem_cons_self)
    · rw [if_neg (by simpa using g)]
      constructor
      · intro e
        refine ⟨c2.mp (by omega), by simp, fun a ha b hb e => ?_⟩
        rw [List.mem_singleton] at hb
        exact g (by rw [← hb, ← e]; exact ha)
      · intro e
        have := c2.mpr e.1
        omega
  · show (decide (k ∈ xs.take i) || decide (k = z)) = decide (k ∈ xs.take (i + 1))
    rw [take_snoc hz]
    simp [List.mem_append]
theorem set_fill {I : Addr} {fp wr : List Addr} {G : Array GenState → Array GenState → Prop} {n : Nat} {Pv : Nat → Value → Prop} {St : Nat → Shared → Prop} {R : Result → Shared → Prop}
    (W : WalksS P w A.in1 I fp wr G n Pv St) (a : Addr) (ha : a ∉ fp) (xs : List Str) (hn : xs.length = n) (hb : n < 1000) (hv : ∀ i v, Pv i v → ∃ z t, xs[i]? = some z ∧ v = .str z t) :
    ∀ (m i : Nat) (s : Shared), n - i = m → i ≤ n → St i s → SetN P w s.heap a xs i →
      (∀ s', Moved (a :: wr) G s s' → SetN P w s'.heap a xs n → R (.ok (.ret .none)) s') → codeAny (model P w) A (.builtin "set.update.loop" ⟨[.ref a, .ref I], []⟩) R s := by
  have haw : a ∉ wr := fun h => ha (W.sub _ h)
  have hsub : ∀ b ∈ wr, b ∈ a :: wr := fun b hb => List.mem_cons_of_mem _ hb
  intro m
  induction m with
  | zero =>
    intro i s hm hi hst hS hR
    obtain rfl : i = n := by omega
    refine codeAny_builtin PyProof.Rows.F.entry_set_update_loop ?_
    rw [Around.under_plainId PyProof.Rows.F.plain_set_update_loop _]
    show wpAny _ A.in1 (pyNext (.ref I) >>= _) _ _ s
    refine wpAny_bind (W.done s _ _ hst fun s' hm => ?_)
    show wpAny _ A.in1 (ret Value.none) _ _ s'
    exact wpAny_pure (hR s' (hm.mono hsub) (hS.keep fun o e => hm.heap a o haw e))
  | succ m ih =>
    intro i s hm hi hst hS hR
    have hlt : i < n := by omega
    refine codeAny_builtin PyProof.Rows.F.entry_set_update_loop ?_
    rw [Around.under_plainId PyProof.Rows.F.plain_set_update_loop _]
    show wpAny _ A.in1 (pyNext (.ref I) >>= _) _ _ s
    refine wpAny_bind (W.item i s _ _ hlt hst fun v s' hP hst' hm' => ?_)
    obtain ⟨z, t, hz, rfl⟩ := hv i v hP
    obtain ⟨c, c1, c2, hS'⟩ := hS.keep (h' := s'.heap) fun o e => hm'.heap a o haw e
    show wpAny _ A.in1 (holding [Value.str z t] (setAdd a (.str z t)) >>= _) _ _ s'
    refine wpAny_bind (wpAny_holding ?_)
    unfold setAdd
    refine wpAny_holding ?_
    refine wpAny_bind ((strKind P w).pyHash (k := z) (strKind_is _ _ _ _) ?_)
    refine wpAny_setAddHashed_of (knd := strKind P w) (s := { s' with toks := s'.toks + 1 }) (strKind_is _ _ _ _) rfl hS' (by unfold scanBound; omega) fun h' sb hS2 => ?_
    have hS3 := SetN.next hz c1 c2 hS2
    refine wpAny_pure ⟨plainId_quiet PyProof.Rows.F.plain_set_update_loop _, ih (i + 1) _ (by omega) hlt (W.frame _ s' _ _ hst' (Nat.le_succ _) fun b hb o e => ?_) hS3 fun s'' hm'' hS'' => ?_⟩
    · exact (sb.2 b (fun h : b = a => ha (h ▸ hb))).trans e
    · refine hR s'' (Moved.trans W.gtrans ((hm'.mono hsub).then_heap (Nat.le_succ _) fun b o hb e => ?_) hm'') hS''
      exact (sb.2 b (fun h : b = a => hb (h ▸ List.mem_cons_self))).trans e
theorem set_of_tup {l : Addr} {items : Array Value} {xs : List Str} {Q : Value → Shared → Prop} (hh : A.handled = none) (hl : s.heap.IsTuple l items) (hi : PyProof.Rows.StrsAre items.toList xs) (hb : xs.length < 1000)
    (h : ∀ (h' : Heap) (tk : Nat), SetN P w h' s.heap.objs.size xs xs.length → (∀ b o, b < s.heap.objs.size → s.heap.get? b = some o → h'.get? b = some o) → Q (.ref s.heap.objs.size) { s with heap := h', toks := tk }) :
    wpAny (model P w) A (call (.type "set") [.ref l]) Q E s := by
  obtain ⟨c, tl, hmro⟩ := PySem.F.called_set.mro
  have hmade := PySem.F.called_set.made
  have hsub := PySem.F.called_set.sub
  have hsz : xs.length = items.size := by rw [← StrsAre.len_eq hi, Array.length_toList]
  refine wpAny_call (codeAny_of_tree ?_)
  show wpAny _ _ (callAny (.type "set") _) _ _ _
  refine wpAny_pure ⟨Code.quiet_builtin _ (by decide +kernel), codeAny_builtin PySem.F.entry_type_call ?_⟩
  rw [Around.under_plain (weight_type_call_type "set" [.ref l] []) rfl]
  have h1 := PySem.F.called_set.notType
  have h2 := PySem.F.called_set.canCreate
  have hct := PySem.F.typeCall_set_1 (.ref l)
  repeat (any_goals (first | assumption | wp_step))
  refine codeAny_mono (code_set_new_1 (.ref l) (E := E) (Q₁ := fun obj s₁ => ∃ led : Bool, obj = .ref s.heap.objs.size ∧ s₁ = { s with heap := s.heap.push { cls := .type "set", dict := none, data := .set #[] 0 (.fresh 0 0 led) } }) fun led => ⟨led, rfl, rfl⟩) fun r s₁ hr => ?_
  rcases r with e | fl
  · exact hr
  cases fl
  case ret obj =>
    obtain ⟨led, rfl, rfl⟩ := hr
    have hS : (s.heap.push { cls := .type "set", dict := none, data := .set #[] 0 (.fresh 0 0 led) }).get? s.heap.objs.size = some { cls := .type "set", dict := none, data := .set #[] 0 (.fresh 0 0 led) } := Heap.get?_push_size _ rfl
    have hT : Shared.TypeIs { s with heap := s.heap.push { cls := .type "set", dict := none, data := .set #[] 0 (.fresh 0 0 led) } } (.ref s.heap.objs.size) "set" := ⟨_, hS, rfl⟩
    have hli := PySem.F.called_set.init.lookup
    have hbi := PySem.F.called_set.init.bind (.ref s.heap.objs.size)
    repeat (any_goals (first | assumption | wp_step))
    refine codeAny_mono (codeAny_call_builtin (R := wants (fun r s₂ => r = .none ∧ ∃ h' tk, s₂ = { s with heap := h', toks := tk } ∧ SetN P w h' s.heap.objs.size xs xs.length ∧
        (∀ b o, b < s.heap.objs.size → s.heap.get? b = some o → h'.get? b = some o)) E) PySem.F.called_set.init.plain PySem.F.entry_set_init (check_set_init_1 hT ?_)) fun r₂ s₂ hr₂ => ?_
    · obtain ⟨⟨ocls, odict, odata, oslots⟩, hol, hcl, nl, hdl⟩ := hl
      simp only at hcl hdl
      subst hcl
      subst hdl
      have hol' : (s.heap.push { cls := .type "set", dict := none, data := .set #[] 0 (.fresh 0 0 led) }).get? l = some { cls := .type "tuple", dict := odict, data := .seq items nl, slots := oslots } := Heap.get?_push_of_some _ hol
      have hsls := PySem.F.sub_tuple_set
      have hslf := PySem.F.sub_tuple_frozenset
      have hne : (Value.type "tuple" == Value.type "dict") = false := by decide
      have hl1 : (s.heap.push { cls := .type "set", dict := none, data := .set #[] 0 (.fresh 0 0 led) }).IsTuple l items := ⟨_, hol', rfl, nl, rfl⟩
      unfold Builtin.«set.__init__» noKeywords Builtin.Frozenset.updateFrom
      generalize hPI : pyIter = PI
      wp_walk
      subst hPI
      refine wpAny_pyIter_tuple hl1 ?_
      refine wpAny_bind (wpAny_runValue ?_)
      have hlS : l < s.heap.objs.size := Heap.lt_size hol
      have hps : (s.heap.push { cls := .type "set", dict := none, data := .set #[] 0 (.fresh 0 0 led) }).objs.size = s.heap.objs.size + 1 := Heap.size_push ..
      refine set_fill ((Walks.tuple (by simp [hh]) _ l (by rw [hps]; exact Nat.ne_of_lt (Nat.lt_succ_of_lt hlS)) items).toS) s.heap.objs.size
        (by rw [hps]; simp only [List.mem_cons, List.not_mem_nil, or_false, not_or]; exact ⟨Nat.ne_of_lt (Nat.lt_succ_self _), Nat.ne_of_gt hlS⟩) xs hsz (by omega)
        (fun i v hv => ?_) (items.size - 0) 0 _ rfl (Nat.zero_le _) ⟨⟨_, Heap.get?_push_size _ rfl, rfl, rfl⟩, hl1.push _⟩ ⟨0, Nat.le_refl _, by simp, ?_⟩ fun s' hm hS' => ?_
      · have hv' : items.toList[i]? = some v := by rw [Array.getElem?_toList]; exact hv
        have hlt : i < xs.length := by rw [hsz]; exact (Array.getElem?_eq_some_iff.mp hv).1
        obtain ⟨t, e⟩ := SS.strs_at hi i v hv'
        refine ⟨xs[i], t, List.getElem?_eq_getElem hlt, ?_⟩
        rw [e, List.getD_eq_getElem?_getD, List.getElem?_eq_getElem hlt]
        rfl
      · have hget : ((s.heap.push { cls := .type "set", dict := none, data := .set #[] 0 (.fresh 0 0 led) }).push { cls := .type "tuple_iterator", data := .fields #[.ref l, .int 0 0] }).get? s.heap.objs.size = some { cls := .type "set", dict := none, data := .set #[] 0 (.fresh 0 0 led) } := Heap.get?_push_of_some _ hS
        exact PyProof.Rows.SetOf_congr ((PyProof.Rows.setObjOf_fresh (knd := strKind P w) led).setOf hget (by unfold scanBound; omega)) (fun _ => by simp) rfl
      · obtain ⟨h', g', d', tk', os'⟩ := s'
        have eg : g' = s.gens := hm.gens
        have ed : d' = s.drawn := hm.drawn
        have eo : os' = s.os := hm.os
        subst eg; subst ed; subst eo
        show wpAny _ _ _ _ _ _
        refine wpAny_pure ?_
        show wpAny _ _ (ret Value.none) _ _ _
        refine wpAny_pure ⟨rfl, h', tk', rfl, by rw [hsz]; exact hS', fun b o hb e => ?_⟩
        refine hm.heap b o ?_ (Heap.get?_push_of_some _ (Heap.get?_push_of_some _ e))
        rw [hps]
        simp only [List.mem_cons, List.not_mem_nil, or_false, not_or]
        exact ⟨Nat.ne_of_lt hb, Nat.ne_of_lt (Nat.lt_succ_of_lt hb)⟩
    · rcases r₂ with e | fl₂
      · exact hr₂
      cases fl₂
      case ret r =>
        obtain ⟨rfl, h', tk, rfl, hS', hk'⟩ := hr₂
        repeat (any_goals (first | assumption | wp_step))
        exact h _ _ hS' hk'
      all_goals exact hr₂.elim
  all_goals exact hr.elim
end
section
variable {X : Cx} {P : Program} {w : World} {K : PySem.W.Frag} {mg : Str → Option Value} {base : Heap} {sc : Scope} {N : List Str} {Vs : List Nat} {GN : List Str} {k : Nat}
variable {σd : Sd} {Gs : Pt} {Q : QD} {R : RX} {a : Expr}
def tLenSet' (K : PySem.W.Frag) (ta : TE) : TE := fun σ H Q => ta σ H fun x H1 => ∃ (l : Addr) (xs : List Str), x = .ref l ∧ SqT K H1 l (xs.map V.str) ∧ xs.length < 1000 ∧ ∀ c : Nat, c ≤ xs.length → (c = xs.length ↔ xs.Nodup) → Q (.int (c : Int)) H1
theorem pe_lenSet' {p p2 q pos : Pos} (hc : X.calm = true) (hg : Gl X "len") (hm : X.mg "len" = none) (hg2 : Gl X "set") (hm2 : X.mg "set" = none) {ta : TE} (ha : PE X a ta)
    (na : starEach [a] X.env = (false, eval a X.env) :: starEach [] X.env) : PE X (.Call (.Name "len" p) [.Call (.Name "set" p2) [a] [] q] [] pos) (tLenSet' X.K ta) := by
  refine ⟨fun pins s σ H Q I h => ?_⟩
  refine Call_ (ld_blt I hg hm boot_len ?_)
  refine PyProof.Rows.callWith_builtin1 (PyProof.Rows.args_cons ?_ rfl) rfl rfl
  refine Call_ (ld_blt I hg2 hm2 boot_set ?_)
  refine PyProof.Rows.callWith_type1 (PyProof.Rows.args_cons (thn (ha.run pins s σ H _ I h) fun v s1 ⟨x, H1, I1, r1, q1⟩ => PyProof.Rows.args_nil ?_) na) na rfl
  obtain ⟨l, xs, rfl, hq, hl, q1⟩ := q1
  cases r1
  obtain ⟨its, r, pl, hz⟩ := I1.tuple hq
  refine set_of_tup (I1.ok.hd hc) pl (by simpa using L2.strsAre_of r) hl fun h' tk ⟨c, c1, c2, hS⟩ hk => ?_
  refine PyProof.Rows.args_nil ?_
  obtain ⟨o, es, ep, t, ho, hex, hd, _, _, _, hf, hn⟩ := hS
  have I2 : Inv X pins σ H1 { s1 with heap := h', toks := tk } := I1.kept fun b o e => hk b o (Heap.lt_size e) e
  rw [List.take_length] at c2
  exact call_len_set ho hex hd hf (by rw [hn]; omega) ⟨.int (c : Int), H1, I2.tok _, ⟨_, by rw [hn]⟩, q1 c c1 c2⟩
theorem lenset_ {p p2 q pos : Pos} {i j : Nat} (B : Bd X P w K mg base sc N Vs GN k) (hm : mg "len" = none) (hG : At GN i ("len" : Str)) (hm2 : mg "set" = none) (hG2 : At GN j ("set" : Str))
    (h : EvD X a σd Gs (fun d G => ∃ xs : List Str, d = .tup (xs.map .str) ∧ xs.length < 1000 ∧ ∀ c : Nat, c ≤ xs.length → (c = xs.length ↔ xs.Nodup) → Q (.int (c : Int)) G) R)
    (na : starEach [a] X.env = (false, eval a X.env) :: starEach [] X.env := by rfl) : EvD X (.Call (.Name "len" p) [.Call (.Name "set" p2) [a] [] q] [] pos) σd Gs Q R := by
  intro pn xe E F σ H wh hE ob sl
  obtain ⟨g1, _, _⟩ := B.nm.gl i _ hG.get
  obtain ⟨g2, _, _⟩ := B.nm.gl j _ hG2.get
  refine (pe_lenSet' (X := X.tr pn xe) B.calm g1 (by rw [show (X.tr pn xe).mg = mg from B.em]; exact hm) g2 (by rw [show (X.tr pn xe).mg = mg from B.em]; exact hm2) PE.self na).get ?_
  refine h.go wh hE Keep.refl ob sl fun v H1 x G1 ob1 k1 _ sl1 rx ⟨xs, ex, hz, q⟩ => ?_
  subst ex
  obtain ⟨l, vs, rfl, t, r⟩ := tup_sq rx
  have e := strs_rel r
  subst e
  exact ⟨l, xs, rfl, t, hz, fun c c1 c2 => Post.of (d := .int (c : Int)) ob1 k1 rfl (q c c1 c2)⟩
end
end Dl
namespace Dl
open PySem PySem.Spec PyProof.Rows L2
/-! ### dicts of the module, text keys and values -/
structure KDx (K : PySem.W.Frag) (w : World) (a : Addr) (kvs : List (Str × Str)) : Prop where
  dic : ∃ es n, KDict K w a es n
  val : ∀ p ∈ kvs, ∃ t, PySem.W.nsIn K a p.1 = some (some (.str p.2 t))
  no : ∀ z : Str, z ∉ kvs.map (·.1) → PySem.W.nsIn K a z = some none
theorem ns_none {K : PySem.W.Frag} {P : Params} {a : Addr} {ks : List Str} (h : He.dicW K a = some (He.keysIn P ks)) {z : Str} (hz : z ∉ ks) : PySem.W.nsIn K a z = some none := by
  unfold He.dicW at h
  unfold PySem.W.nsIn
  cases q : K.lookup a with
  | none =>
    rw [q] at h
    cases h
  | some o =>
    obtain ⟨oc, od, dt, osl⟩ := o
    rw [q] at h
    cases oc <;> try (cases h)
    cases od <;> try (cases h)
    cases dt <;> try (cases h)
    rename_i c es n
    dsimp only at h ⊢
    split at h
    · have hk := Option.some.inj h
      have key : ∀ (l : List DictEntry) (ks : List Str), l.map He.keyOf = He.keysIn P ks → z ∉ ks → l.find? (fun e => e.key.isStr z) = none ∧ l.any (fun e => e.refKey) = false := by
        intro l
        induction l with
        | nil => intro ks _ _; exact ⟨rfl, rfl⟩
        | cons e l ih =>
          intro ks hk hz
          cases ks with
          | nil => cases hk
          | cons k ks =>
            have h1 : He.keyOf e :: l.map He.keyOf = some (k, PyData.keyHash P k) :: He.keysIn P ks := hk
            injection h1 with h2 h3
            obtain ⟨i1, i2⟩ := ih ks h3 fun m => hz (List.mem_cons_of_mem _ m)
            unfold He.keyOf at h2
            split at h2
            · rename_i x t q
              obtain ⟨h5, _⟩ := Prod.mk.inj (Option.some.inj h2)
              have hne : ¬ x = z := fun e => hz (by rw [← e, h5]; exact List.mem_cons_self)
              have e1 : e.key.isStr z = false := by
                rw [q]
                simpa [Value.isStr] using hne
              have e2 : e.refKey = false := by
                unfold DictEntry.refKey
                rw [q]
              exact ⟨by rw [List.find?_cons_of_neg (by rw [e1]; decide)]; exact i1, by rw [List.any_cons, e2, i2]; rfl⟩
            · cases h2
      obtain ⟨k1, k2⟩ := key es.toList ks hk hz
      rw [k1, k2]
      rfl
    · cases h
theorem kdx_of {K : PySem.W.Frag} {w : World} {a : Addr} {kvs : List (Str × Str)} (h : He.dicW K a = some (He.keysIn w.params (kvs.map (·.1)))) (v : ∀ p ∈ kvs, ∃ t, PySem.W.nsIn K a p.1 = some (some (.str p.2 t))) : KDx K w a kvs :=
  ⟨He.dicW_ok h, v, fun z hz => ns_none h hz⟩
section
variable {X : Cx} {P : Program} {w : World} {K : PySem.W.Frag} {mg : Str → Option Value} {base : Heap} {sc : Scope} {N : List Str} {Vs : List Nat} {GN : List Str} {k : Nat}
variable {σd : Sd} {Gs : Pt} {Q : QD} {R : RX} {pos : Pos} {a b : Expr}
theorem c_ninKd {z : Str} {p : Addr} {kvs : List (Str × Str)} (B : Bd X P w K mg base sc N Vs GN k) (D : KDx K w p kvs) (q : Q (.bl (!decide (z ∈ kvs.map (·.1)))) Gs) : CmpD X .NotIn (.str z) (.ref p) Gs Q := by
  have eK := B.eK
  have ew : X.w = w := B.ew
  rw [← eK, ← ew] at D
  obtain ⟨es, n, D0⟩ := D.dic
  refine ⟨fun x y H Q => ∃ (z : Str) (r : Option Value), x = .str z ∧ y = .ref p ∧ PySem.W.nsIn X.K p z = some r ∧ Q (.bl (!r.isSome)) H, fun pn xe => op_notIn_kd (X := X.tr pn xe) D0, fun F H vx vy ob rx ry => ?_⟩
  cases (show vx = .str z from rx)
  cases (show vy = .ref p from ry)
  by_cases h : z ∈ kvs.map (·.1)
  · obtain ⟨e, he, rfl⟩ := List.mem_map.mp h
    obtain ⟨t, ht⟩ := D.val e he
    rw [decide_eq_true h] at q
    exact ⟨_, _, rfl, rfl, ht, Post.of (d := .bl false) ob Keep.refl rfl q⟩
  · rw [decide_eq_false h] at q
    exact ⟨_, _, rfl, rfl, D.no z h, Post.of (d := .bl true) ob Keep.refl rfl q⟩
theorem c_ninKdT {z : Str} {p : Addr} {kvs : List (Str × Str)} (B : Bd X P w K mg base sc N Vs GN k) (D : KDx K w p kvs) (h : z ∈ kvs.map (·.1)) (q : Q (.bl false) Gs) : CmpD X .NotIn (.str z) (.ref p) Gs Q := c_ninKd B D (by rw [decide_eq_true h]; exact q)
theorem c_ninKdF {z : Str} {p : Addr} {kvs : List (Str × Str)} (B : Bd X P w K mg base sc N Vs GN k) (D : KDx K w p kvs) (h : z ∉ kvs.map (·.1)) (q : Q (.bl true) Gs) : CmpD X .NotIn (.str z) (.ref p) Gs Q := c_ninKd B D (by rw [decide_eq_false h]; exact q)
theorem ix_kd {z v : Str} {p : Addr} {kvs : List (Str × Str)} (B : Bd X P w K mg base sc N Vs GN k) (D : KDx K w p kvs) (h : (z, v) ∈ kvs) (q : Q (.str v) Gs) : IxD X (.ref p) (.str z) Gs Q := by
  have eK := B.eK
  have ew : X.w = w := B.ew
  rw [← eK, ← ew] at D
  obtain ⟨es, n, D0⟩ := D.dic
  obtain ⟨t, ht⟩ := D.val _ h
  refine ⟨rIxD X.K X.w, fun pn xe => ix_kdict (X := X.tr pn xe), fun F H vx vy ob rx ry => ?_⟩
  cases (show vx = .ref p from rx)
  cases (show vy = .str z from ry)
  exact ⟨p, z, .str v, rfl, rfl, ⟨es, n, _, D0.at_, D0.lit, ht, ⟨t, rfl⟩⟩, Post.of (d := .str v) ob Keep.refl rfl q⟩
/-! ### texts: find from a place, startswith -/
theorem m_find3 {x y : Str} {i : Int} (q : Q (.int (Txt.find3 x y i)) Gs) : MetD X "str.find" (.str x) [.str y, .int i] Gs Q := by
  refine ⟨_, fun pn xe => mt_find3, fun F H vx vs ob rx rs => ?_⟩
  cases (show vx = .str x from rx)
  obtain ⟨v1, _, rfl, r1, v2, _, rfl, r2, rfl⟩ := rs
  cases (show v1 = .str y from r1)
  cases (show v2 = .int i from r2)
  exact ⟨x, y, i, rfl, rfl, Post.of (d := .int (Txt.find3 x y i)) ob Keep.refl rfl q⟩
theorem m_starts {x y : Str} (q : Q (.bl (Txt.startswith x y)) Gs) : MetD X "str.startswith" (.str x) [.str y] Gs Q := by
  refine ⟨_, fun pn xe => mt_startswith, fun F H vx vs ob rx rs => ?_⟩
  cases (show vx = .str x from rx)
  obtain ⟨v1, _, rfl, r1, rfl⟩ := rs
  cases (show v1 = .str y from r1)
  exact ⟨x, y, rfl, rfl, Post.of (d := .bl (Txt.startswith x y)) ob Keep.refl rfl q⟩
end
theorem starts_one (l : List Nat) (c : Nat) : Txt.startswith (S l) (S [c]) = decide (l.head? = some c) := by
  rw [Bool.eq_iff_iff, decide_eq_true_eq]
  have := PySem.StrLaws.subAt_one (S l) c 0
  rw [show (S l).cps.toList = l from rfl] at this
  rw [List.head?_eq_getElem?, ← this]
  unfold Txt.startswith
  rw [Bool.and_eq_true, decide_eq_true_eq]
  rfl
theorem occ_all (x : Str) (c : Nat) (hi lim : Nat) (p : Nat → Prop) : ∀ (l : List Nat) (st : Array Nat × Nat), (∀ k ∈ st.fst.toList, p k) → (∀ k ∈ l, k + 1 ≤ hi → Builtin.Str.subAt x ⟨#[c]⟩ k = true → p k) →
    ∀ k ∈ (forIn l st (PySem.StrLaws.occBody x ⟨#[c]⟩ hi lim)).run.fst.toList, p k
  | [], st, h, _ => by simpa using h
  | a :: l, st, h, g => by
    rw [List.forIn_cons]
    unfold PySem.StrLaws.occBody
    split
    · rename_i z
      refine occ_all x c hi lim p l _ ?_ fun k hk => g k (List.mem_cons_of_mem _ hk)
      intro k hk
      rw [Array.toList_push] at hk
      rcases List.mem_append.mp hk with h1 | h1
      · exact h k h1
      · rw [List.mem_singleton.mp h1]
        exact g a List.mem_cons_self z.1.2 z.2
    · exact occ_all x c hi lim p l _ h fun k hk => g k (List.mem_cons_of_mem _ hk)
/-- where it is found, the sign stands -/
theorem find3_at (l : List Nat) (c : Nat) (i : Nat) : Txt.find3 (S l) (S [c]) i = -1 ∨ ∃ k : Nat, Txt.find3 (S l) (S [c]) i = k ∧ i ≤ k ∧ l[k]? = some c := by
  unfold Txt.find3
  split
  · rename_i k r e
    refine .inr ⟨k, rfl, ?_⟩
    have e0 : PySem.fromIndex (S l).length (i : Int) = i := by
      show (max 0 (if (i : Int) < 0 then (i : Int) + ((S l).length : Int) else (i : Int))).toNat = i
      rw [if_neg (by omega)]
      omega
    rw [show (S [c]) = (⟨#[c]⟩ : Str) from rfl, PySem.StrLaws.occ_eq, e0] at e
    have := occ_all (S l) c (S l).length 1 (fun k => i ≤ k ∧ l[k]? = some c) (List.range' i ((S l).length + 1 - i)) (#[], i) (fun _ h => by simp at h) (fun k hk h1 h2 => ?_) k (by rw [e]; exact List.mem_cons_self)
    · exact this
    · rw [List.mem_range'] at hk
      obtain ⟨j, _, rfl⟩ := hk
      exact ⟨by omega, (PySem.StrLaws.subAt_one (S l) c _).mp ⟨h1, h2⟩⟩
  · exact .inl rfl
end Dl
namespace Dl
open PySem PySem.Spec PyProof.Rows L2
section
variable {X : Cx} {P : Program} {w : World} {K : PySem.W.Frag} {mg : Str → Option Value} {base : Heap} {sc : Scope} {N : List Str} {Vs : List Nat} {GN : List Str} {k : Nat}
variable {σd : Sd} {Gs : Pt} {Q : QD} {R : RX} {pos : Pos} {a b e : Expr}
/-! ### partition, split, int(text) -/
theorem m_part {x y : Str} (hy : (y.length == 0) = false) (hz : x.length ≤ sizeLine) (q : Q (.tup [.str (Txt.partition x y).1, .str (Txt.partition x y).2.1, .str (Txt.partition x y).2.2]) Gs) : MetD X "str.partition" (.str x) [.str y] Gs Q := by
  refine ⟨_, fun pn xe => mt_partition, fun F H vx vs ob rx rs => ?_⟩
  cases (show vx = .str x from rx)
  obtain ⟨v1, _, rfl, r1, rfl⟩ := rs
  cases (show v1 = .str y from r1)
  refine ⟨x, y, rfl, rfl, hy, hz, fun p hp => ?_⟩
  exact Post.of (d := .tup [.str (Txt.partition x y).1, .str (Txt.partition x y).2.1, .str (Txt.partition x y).2.2]) (ob.newF hp) (Keep.newF hp) ⟨p, _, rfl, .inl ⟨ob.mem_none hp, .inl upd_same⟩, ⟨_, _, rfl, rfl, _, _, rfl, rfl, _, _, rfl, rfl, rfl⟩⟩ q
theorem rds_strs {N' : List Addr} {H' : Hp} : ∀ ys : List Str, RDs K N' H' (ys.map D.str) (ys.map V.str)
  | [] => rfl
  | y :: ys => ⟨.str y, _, rfl, rfl, rds_strs ys⟩
theorem m_spl {x y : Str} (hy : (y.length == 0) = false) (hz : x.length + 2 ≤ sizeLine) (q : Q (.lst ((Txt.split x y).map .str)) Gs) : MetD X "str.split" (.str x) [.str y] Gs Q := by
  refine ⟨_, fun pn xe => mt_split, fun F H vx vs ob rx rs => ?_⟩
  cases (show vx = .str x from rx)
  obtain ⟨v1, _, rfl, r1, rfl⟩ := rs
  cases (show v1 = .str y from r1)
  refine ⟨x, y, rfl, rfl, hy, hz, fun p hp => ?_⟩
  exact Post.of (d := .lst ((Txt.split x y).map .str)) (ob.newF hp) (Keep.newF hp) ⟨p, _, rfl, ob.mem_none hp, upd_same, rds_strs _⟩ q
theorem k_intS {x : Str} {n : Int} (h : PySem.intText? x = some n) (hz : x.length ≤ 640) (q : Q (.int n) Gs) : CalD X (.type "int") [.str x] Gs Q := ⟨_, fun pn xe => call_int_str, fun F H vs ob r => by
  obtain ⟨v, _, rfl, rv, rfl⟩ := r
  cases (show v = .str x from rv)
  exact ⟨x, n, rfl, h, hz, Post.of (d := .int n) ob Keep.refl rfl q⟩⟩
/-! ### f'..' -/
theorem e_fmt (h : EvD X e σd Gs (fun x G => (∃ y : Str, x = .str y ∧ y.length ≤ sizeLine ∧ Q (.str y) G) ∨ ∃ i : Int, x = .int i ∧ i.natAbs.log2 < 1920 ∧ Q (.str (toString i)) G) R) : EvD X (.FormattedValue e (-1) none pos) σd Gs Q R := by
  intro pn xe E F σ H wh hE ob sl
  refine (pe_fmt (X := X.tr pn xe) PE.self).get ?_
  refine h.go wh hE Keep.refl ob sl fun v H1 x G1 ob1 k1 _ sl1 rx q => ?_
  rcases q with ⟨y, rfl, hz, q⟩ | ⟨i, rfl, hz, q⟩
  · cases (show v = .str y from rx)
    exact .inl ⟨y, rfl, hz, Post.of (d := .str y) ob1 k1 rfl q⟩
  · cases (show v = .int i from rx)
    exact .inr ⟨i, rfl, hz, Post.of (d := .str (toString i)) ob1 k1 rfl q⟩
/-- the parts one behind the other -/
def FsD (X : Cx) (σd : Sd) (R : RX) (Q : QD) : List Expr → Str → Pt → Prop
  | [], acc, G => Q (.str acc) G
  | e :: es, acc, G => EvD X e σd G (fun x G1 => ∃ y : Str, x = .str y ∧ (acc ++ y).length ≤ sizeLine ∧ FsD X σd R Q es (acc ++ y) G1) R
theorem fs_run {pn : List (Addr × Obj)} {xe : Value → Shared → Prop} {E : XK} {F : List Cell} {σ : L2.St} : ∀ (es : List Expr) (acc : Str) (G0 G : Pt) (H0 H : Hp), Wh X pn xe E → (∀ c od H', Wx X.K F G0 H0 R c od H' → E c od H') → Keep (dm (tot G0 F)) H0 (dm (tot G F)) H → Ob X.K (tot G F) H → Sl X.K (dm (tot G F)) H σd σ →
    FsD X σd R Q es acc G → tJs (es.map fun e => sem (X.tr pn xe) e) acc σ H (fun out H1 => Post X.K F G0 H0 Q (.str out) H1)
  | [], acc, G0, G, H0, H, wh, hE, k0, ob, sl, h => Post.of (d := .str acc) ob k0 rfl h
  | e :: es, acc, G0, G, H0, H, wh, hE, k0, ob, sl, h => by
    refine EvD.go (show EvD X e σd G _ R from h) wh hE k0 ob sl fun v H1 x G1 ob1 k1 k12 sl1 rx ⟨y, ey, hz, q⟩ => ?_
    subst ey
    cases (show v = .str y from rx)
    exact ⟨y, rfl, hz, fs_run es _ G0 G1 H0 H1 wh hE k1 ob1 sl1 q⟩
theorem pj_self {X : Cx} : ∀ es : List Expr, PJ X es (es.map fun e => sem X e)
  | [] => .nil
  | _ :: es => .cons PE.self (pj_self es)
theorem e_joined {v1 v2 : Expr} {rest : List Expr} (h : FsD X σd R Q (v1 :: v2 :: rest) Str.empty Gs) : EvD X (.JoinedStr (v1 :: v2 :: rest) pos) σd Gs Q R := by
  intro pn xe E F σ H wh hE ob sl
  exact (pe_joined (X := X.tr pn xe) (pj_self _)).get (fs_run _ _ Gs Gs H H wh hE Keep.refl ob sl h)
theorem fs_nil {acc : Str} {G : Pt} (q : Q (.str acc) G) : FsD X σd R Q [] acc G := q
theorem fs_cons {es : List Expr} {acc : Str} {G : Pt} (h : EvD X e σd G (fun x G1 => ∃ y : Str, x = .str y ∧ (acc ++ y).length ≤ sizeLine ∧ FsD X σd R Q es (acc ++ y) G1) R) : FsD X σd R Q (e :: es) acc G := h
theorem fs_x {es : List Expr} {acc y : Str} {G : Pt} (hz : (acc ++ y).length ≤ sizeLine) (h : FsD X σd R Q es (acc ++ y) G) : ∃ z : Str, D.str y = .str z ∧ (acc ++ z).length ≤ sizeLine ∧ FsD X σd R Q es (acc ++ z) G := ⟨y, rfl, hz, h⟩
theorem fm_str {y : Str} {Z : Str → Prop} {W : Int → Prop} (hz : y.length ≤ sizeLine) (q : Z y) : (∃ z : Str, D.str y = .str z ∧ z.length ≤ sizeLine ∧ Z z) ∨ ∃ i : Int, D.str y = .int i ∧ i.natAbs.log2 < 1920 ∧ W i := .inl ⟨y, rfl, hz, q⟩
theorem fm_int {i : Int} {Z : Str → Prop} {W : Int → Prop} (hz : i.natAbs.log2 < 1920) (q : W i) : (∃ z : Str, D.int i = .str z ∧ z.length ≤ sizeLine ∧ Z z) ∨ ∃ j : Int, D.int i = .int j ∧ j.natAbs.log2 < 1920 ∧ W j := .inr ⟨i, rfl, hz, q⟩
end
end Dl
namespace Dl
open PySem PySem.Spec PyProof.Rows L2
/-! ### a text up to its first space, and what is behind it; its words -/
def upTo (l : List Nat) : List Nat := l.takeWhile fun c => decide (c ≠ 32)
def past (l : List Nat) : List Nat := (l.dropWhile fun c => decide (c ≠ 32)).drop 1
def wordsL (l : List Nat) : List (List Nat) := TL.spl [32] 0 [] l
theorem tw_all {p : Nat → Bool} : ∀ (l : List Nat), ∀ c ∈ l.takeWhile p, p c = true
  | [], _, h => nomatch h
  | a :: l, c, h => by
    by_cases g : p a = true
    · rw [List.takeWhile_cons_of_pos g] at h
      rcases List.mem_cons.mp h with z | z
      · rw [z]; exact g
      · exact tw_all l c z
    · rw [List.takeWhile_cons_of_neg g] at h
      exact nomatch h
theorem up_no (l : List Nat) : 32 ∉ upTo l := fun h => by
  have := tw_all l 32 h
  simp at this
theorem dw_head {p : Nat → Bool} : ∀ l : List Nat, l.dropWhile p = [] ∨ ∃ c r, l.dropWhile p = c :: r ∧ p c = false
  | [] => .inl rfl
  | a :: l => by
    by_cases h : p a = true
    · rw [List.dropWhile_cons_of_pos h]
      exact dw_head l
    · rw [List.dropWhile_cons_of_neg h]
      exact .inr ⟨a, l, rfl, by simpa using h⟩
/-- either there is a space, or all is ahead of it -/
theorem up_past (l : List Nat) : (l = upTo l ∧ past l = []) ∨ l = upTo l ++ 32 :: past l := by
  unfold upTo past
  rcases dw_head (p := fun c => decide (c ≠ 32)) l with h | ⟨c, r, h, hc⟩
  · rw [h]
    have e := List.takeWhile_append_dropWhile (p := fun c => decide (c ≠ 32)) (l := l)
    rw [h, List.append_nil] at e
    exact .inl ⟨e.symm, rfl⟩
  · rw [h]
    have e := List.takeWhile_append_dropWhile (p := fun c => decide (c ≠ 32)) (l := l)
    rw [h] at e
    have : c = 32 := by simpa using hc
    subst this
    exact .inr e.symm
theorem part_S (l : List Nat) : (Txt.partition (S l) (S [32])).1 = S (upTo l) ∧ (Txt.partition (S l) (S [32])).2.2 = S (past l) := by
  rcases up_past l with ⟨h1, h2⟩ | h
  · have hn : 32 ∉ l := by
      rw [h1]
      exact up_no l
    have e := TL.partition_none (y := S [32]) (s := 32) (S := []) rfl (a := S l) hn
    rw [e, h2]
    exact ⟨by rw [← h1], rfl⟩
  · have e := TL.partition_app (y := S [32]) (s := 32) (S := []) rfl (a := S (upTo l)) (b := S (past l)) (up_no l)
    have e2 : S (upTo l) ++ S [32] ++ S (past l) = S l := by
      rw [S_add, S_add]
      congr 1
      rw [List.append_assoc]
      exact h.symm
    rw [e2] at e
    rw [e]
    exact ⟨rfl, rfl⟩
theorem up_app {p q : List Nat} (h : 32 ∉ p) : upTo (p ++ 32 :: q) = p ∧ past (p ++ 32 :: q) = q := by
  have h1 : ∀ c ∈ p, decide (c ≠ 32) = true := fun c hc => decide_eq_true fun z => h (z ▸ hc)
  unfold upTo past
  rw [List.takeWhile_append_of_pos h1, List.dropWhile_append_of_pos h1]
  simp
theorem up_all {p : List Nat} (h : 32 ∉ p) : upTo p = p ∧ past p = [] := by
  rcases up_past p with ⟨h1, h2⟩ | g
  · exact ⟨h1.symm, h2⟩
  · exact absurd (by rw [g]; simp) h
theorem split_S' (l : List Nat) : Txt.split (S l) (S [32]) = (wordsL l).map S := SX.split_S (a := l) (b := [32]) (by decide) (by decide)
theorem join_S' (ys : List (List Nat)) : Txt.join (S [32]) (ys.map S) = S (TL.joinL [32] ys) := SX.join_S [32] ys
theorem words_ne : ∀ (l acc : List Nat), TL.spl [32] 0 acc l ≠ []
  | [], acc => by rw [TL.spl_nil]; simp
  | c :: l, acc => by
    by_cases h : TL.pre [32] (c :: l) = true
    · rw [TL.spl_hit h]; simp
    · rw [TL.spl_miss (by simpa using h)]
      exact words_ne l _
theorem pre_one {c : Nat} {l : List Nat} : TL.pre [32] (c :: l) = decide (c = 32) := by
  by_cases h : c = 32
  · subst h; simp [TL.pre]
  · simp [TL.pre, h]
theorem join_cons {p : List Nat} {r : List (List Nat)} (h : r ≠ []) : TL.joinL [32] (p :: r) = p ++ ([32] ++ TL.joinL [32] r) := by
  cases r with
  | nil => exact absurd rfl h
  | cons a b => rfl
/-- the words joined are the text -/
theorem join_spl : ∀ (l acc : List Nat), TL.joinL [32] (TL.spl [32] 0 acc l) = acc ++ l
  | [], acc => by
    rw [TL.spl_nil]
    simp [TL.joinL]
  | c :: l, acc => by
    by_cases h : c = 32
    · subst h
      rw [TL.spl_hit (by rw [pre_one]; rfl), join_cons (by rw [show ([32] : List Nat).length - 1 = 0 from rfl]; exact words_ne l []), show ([32] : List Nat).length - 1 = 0 from rfl, join_spl l []]
      rfl
    · rw [TL.spl_miss (by rw [pre_one]; exact decide_eq_false h), join_spl l _, List.append_assoc]
      rfl
theorem words_join (l : List Nat) : TL.joinL [32] (wordsL l) = l := join_spl l []
theorem join_words {ps : List (List Nat)} (h : ps ≠ []) (g : ∀ p ∈ ps, 32 ∉ p) : wordsL (TL.joinL [32] ps) = ps := TL.spl_join (S := []) h g
theorem words_len : ∀ (l acc : List Nat), (TL.spl [32] 0 acc l).length ≤ l.length + 1
  | [], acc => by rw [TL.spl_nil]; simp
  | c :: l, acc => by
    have := words_len l
    by_cases h : c = 32
    · subst h
      rw [TL.spl_hit (by rw [pre_one]; rfl), List.length_cons, List.length_cons]
      exact Nat.succ_le_succ (this [])
    · rw [TL.spl_miss (by rw [pre_one]; exact decide_eq_false h), List.length_cons]
      have := this (acc ++ [c])
      omega
theorem words_mem : ∀ (l acc w : List Nat), w ∈ TL.spl [32] 0 acc l → (∀ c ∈ w, c ∈ acc ∨ c ∈ l) ∧ w.length ≤ acc.length + l.length
  | [], acc, w, h => by
    rw [TL.spl_nil] at h
    rw [List.mem_singleton.mp h]
    exact ⟨fun c hc => .inl hc, by simp⟩
  | c :: l, acc, w, h => by
    by_cases g : c = 32
    · subst g
      rw [TL.spl_hit (by rw [pre_one]; rfl)] at h
      rcases List.mem_cons.mp h with z | z
      · rw [z]
        exact ⟨fun c hc => .inl hc, by omega⟩
      · obtain ⟨h1, h2⟩ := words_mem l [] w z
        refine ⟨fun d hd => .inr ?_, by simp at h2 ⊢; omega⟩
        rcases h1 d hd with y | y
        · exact nomatch y
        · exact List.mem_cons_of_mem _ y
    · rw [TL.spl_miss (by rw [pre_one]; exact decide_eq_false g)] at h
      obtain ⟨h1, h2⟩ := words_mem l _ w h
      refine ⟨fun d hd => ?_, by rw [List.length_append] at h2; simp at h2 ⊢; omega⟩
      rcases h1 d hd with y | y
      · rcases List.mem_append.mp y with x | x
        · exact .inl x
        · exact .inr (by rw [List.mem_singleton.mp x]; exact List.mem_cons_self)
      · exact .inr (List.mem_cons_of_mem _ y)
theorem past_mem {l : List Nat} {c : Nat} (h : c ∈ past l) : c ∈ l := (List.dropWhile_sublist _).mem (List.mem_of_mem_drop h)
theorem upTo_mem {l : List Nat} {c : Nat} (h : c ∈ upTo l) : c ∈ l := (List.takeWhile_sublist _).mem h
theorem past_len (l : List Nat) : (past l).length ≤ l.length := Nat.le_trans (by unfold past; rw [List.length_drop]; omega) (List.dropWhile_sublist (p := fun c => decide (c ≠ 32)) (l := l)).length_le
theorem upTo_len (l : List Nat) : (upTo l).length ≤ l.length := (List.takeWhile_sublist _).length_le
section
variable {X : Cx} {Gs : Pt} {Q : QD}
theorem m_partL {l : List Nat} (hz : l.length ≤ sizeLine) (q : ∀ u, Q (.tup [.str (S (upTo l)), .str u, .str (S (past l))]) Gs) : MetD X "str.partition" (.str (S l)) [.str (Str.ofString " ")] Gs Q := by
  refine m_part (by decide +kernel) (by rw [S_len]; exact hz) ?_
  have e := part_S l
  rw [show Str.ofString " " = S [32] from rfl, e.1, e.2]
  exact q _
theorem m_splL {l : List Nat} (hz : l.length + 2 ≤ sizeLine) (q : Q (.lst ((wordsL l).map fun x => .str (S x))) Gs) : MetD X "str.split" (.str (S l)) [.str (Str.ofString " ")] Gs Q := by
  refine m_spl (by decide +kernel) (by rw [S_len]; exact hz) ?_
  rw [show Str.ofString " " = S [32] from rfl, split_S', List.map_map]
  exact q
theorem m_joinL {ps : List (List Nat)} (h1 : ps.length ≤ 1000) (h2 : ∀ p ∈ ps, p.length ≤ 1000) (q : Q (.str (S (TL.joinL [32] ps))) Gs) : MetD X "str.join" (.str (Str.ofString " ")) [.lst (ps.map fun x => .str (S x))] Gs Q := by
  rw [show (ps.map fun x => D.str (S x)) = (ps.map S).map D.str by rw [List.map_map]; rfl]
  have hs := sum_le_of (l := (ps.map S).map (·.length)) (b := 1000) fun x hx => by
    obtain ⟨y, hy, rfl⟩ := List.mem_map.mp hx
    obtain ⟨p, hp, rfl⟩ := List.mem_map.mp hy
    rw [S_len]
    exact h2 p hp
  rw [List.length_map, List.length_map] at hs
  have hm : ps.length * 1000 ≤ 1000 * 1000 := Nat.mul_le_mul_right _ h1
  refine m_join ls_val ?_ ?_
  · rw [List.length_map, show (Str.ofString " ").length = 1 from rfl]
    omega
  · rw [show Str.ofString " " = S [32] from rfl, join_S']
    exact q
end
section
variable {X : Cx} {P : Program} {w : World} {K : PySem.W.Frag} {mg : Str → Option Value} {base : Heap} {sc : Scope} {N : List Str} {Vs : List Nat} {GN : List Str} {k : Nat} {Gs : Pt} {Q : QD}
/-- a text not in an own list of texts -/
theorem c_ninSO {x : Str} {l : List Str} {p : Addr} (B : Bd X P w K mg base sc N Vs GN k) (hx : PyData.strOk x = true) (hp : Has Gs p (.lst (l.map .str))) (hl : (l.map D.str).all (shN 0) = true) (q : Q (.bl (!decide (x ∈ l))) Gs) : CmpD X .NotIn (.str x) (.ref p) Gs Q := by
  have h1 : shN 1 (.str x) = true := hx
  have h2 : shN 1 (.lst (l.map .str)) = true := by simpa only [shN] using hl
  refine c_ninD B (pd_val h1) (pd_own hp hl) (shp h1 (by decide)) (shp h2 (by decide)) ?_
  show Q (.bl (!(pds (l.map D.str)).any fun z => PyData.eqv z (.str x))) Gs
  rw [any_strs]
  exact q
end
end Dl
namespace Dl
open PySem PySem.Spec PyProof.Rows L2
/-! ### len(set(l)), l a list of texts -/
section
variable {P : Program} {w : World} {A : Around} {E : Value → Shared → Prop} {s : Shared}
theorem set_of_lst {l : Addr} {items : Array Value} {xs : List Str} {Q : Value → Shared → Prop} (hh : A.handled = none) (hl : s.heap.IsList l items) (hi : PyProof.Rows.StrsAre items.toList xs) (hb : xs.length < 1000)
    (h : ∀ (h' : Heap) (tk : Nat), SetN P w h' s.heap.objs.size xs xs.length → (∀ b o, b < s.heap.objs.size → s.heap.get? b = some o → h'.get? b = some o) → Q (.ref s.heap.objs.size) { s with heap := h', toks := tk }) :
    wpAny (model P w) A (call (.type "set") [.ref l]) Q E s := by
  obtain ⟨c, tl, hmro⟩ := PySem.F.called_set.mro
  have hmade := PySem.F.called_set.made
  have hsub := PySem.F.called_set.sub
  have hsz : xs.length = items.size := by rw [← StrsAre.len_eq hi, Array.length_toList]
  refine wpAny_call (codeAny_of_tree ?_)
  show wpAny _ _ (callAny (.type "set") _) _ _ _
  refine wpAny_pure ⟨Code.quiet_builtin _ (by decide +kernel), codeAny_builtin PySem.F.entry_type_call ?_⟩
  rw [Around.under_plain (weight_type_call_type "set" [.ref l] []) rfl]
  have h1 := PySem.F.called_set.notType
  have h2 := PySem.F.called_set.canCreate
  have hct := PySem.F.typeCall_set_1 (.ref l)
  repeat (any_goals (first | assumption | wp_step))
  refine codeAny_mono (code_set_new_1 (.ref l) (E := E) (Q₁ := fun obj s₁ => ∃ led : Bool, obj = .ref s.heap.objs.size ∧ s₁ = { s with heap := s.heap.push { cls := .type "set", dict := none, data := .set #[] 0 (.fresh 0 0 led) } }) fun led => ⟨led, rfl, rfl⟩) fun r s₁ hr => ?_
  rcases r with e | fl
  · exact hr
  cases fl
  case ret obj =>
    obtain ⟨led, rfl, rfl⟩ := hr
    have hS : (s.heap.push { cls := .type "set", dict := none, data := .set #[] 0 (.fresh 0 0 led) }).get? s.heap.objs.size = some { cls := .type "set", dict := none, data := .set #[] 0 (.fresh 0 0 led) } := Heap.get?_push_size _ rfl
    have hT : Shared.TypeIs { s with heap := s.heap.push { cls := .type "set", dict := none, data := .set #[] 0 (.fresh 0 0 led) } } (.ref s.heap.objs.size) "set" := ⟨_, hS, rfl⟩
    have hli := PySem.F.called_set.init.lookup
    have hbi := PySem.F.called_set.init.bind (.ref s.heap.objs.size)
    repeat (any_goals (first | assumption | wp_step))
    refine codeAny_mono (codeAny_call_builtin (R := wants (fun r s₂ => r = .none ∧ ∃ h' tk, s₂ = { s with heap := h', toks := tk } ∧ SetN P w h' s.heap.objs.size xs xs.length ∧
        (∀ b o, b < s.heap.objs.size → s.heap.get? b = some o → h'.get? b = some o)) E) PySem.F.called_set.init.plain PySem.F.entry_set_init (check_set_init_1 hT ?_)) fun r₂ s₂ hr₂ => ?_
    · obtain ⟨⟨ocls, odict, odata, oslots⟩, hol, hcl, nl, hdl⟩ := hl
      simp only at hcl hdl
      subst hcl
      subst hdl
      have hol' : (s.heap.push { cls := .type "set", dict := none, data := .set #[] 0 (.fresh 0 0 led) }).get? l = some { cls := .type "list", dict := odict, data := .seq items nl, slots := oslots } := Heap.get?_push_of_some _ hol
      have hsls := PySem.F.sub_list_set
      have hslf := PySem.F.sub_list_frozenset
      have hne : (Value.type "list" == Value.type "dict") = false := by decide
      have hl1 : (s.heap.push { cls := .type "set", dict := none, data := .set #[] 0 (.fresh 0 0 led) }).IsList l items := ⟨_, hol', rfl, nl, rfl⟩
      unfold Builtin.«set.__init__» noKeywords Builtin.Frozenset.updateFrom
      generalize hPI : pyIter = PI
      wp_walk
      subst hPI
      refine wpAny_pyIter_list hl1 ?_
      refine wpAny_bind (wpAny_runValue ?_)
      have hlS : l < s.heap.objs.size := Heap.lt_size hol
      have hps : (s.heap.push { cls := .type "set", dict := none, data := .set #[] 0 (.fresh 0 0 led) }).objs.size = s.heap.objs.size + 1 := Heap.size_push ..
      refine set_fill ((Walks.list (by simp [hh]) _ l (by rw [hps]; exact Nat.ne_of_lt (Nat.lt_succ_of_lt hlS)) items).toS) s.heap.objs.size
        (by rw [hps]; simp only [List.mem_cons, List.not_mem_nil, or_false, not_or]; exact ⟨Nat.ne_of_lt (Nat.lt_succ_self _), Nat.ne_of_gt hlS⟩) xs hsz (by omega)
        (fun i v hv => ?_) (items.size - 0) 0 _ rfl (Nat.zero_le _) ⟨⟨_, Heap.get?_push_size _ rfl, rfl, rfl⟩, hl1.push _⟩ ⟨0, Nat.le_refl _, by simp, ?_⟩ fun s' hm hS' => ?_
      · have hv' : items.toList[i]? = some v := by rw [Array.getElem?_toList]; exact hv
        have hlt : i < xs.length := by rw [hsz]; exact (Array.getElem?_eq_some_iff.mp hv).1
        obtain ⟨t, e⟩ := SS.strs_at hi i v hv'
        refine ⟨xs[i], t, List.getElem?_eq_getElem hlt, ?_⟩
        rw [e, List.getD_eq_getElem?_getD, List.getElem?_eq_getElem hlt]
        rfl
      · have hget : ((s.heap.push { cls := .type "set", dict := none, data := .set #[] 0 (.fresh 0 0 led) }).push { cls := .type "list_iterator", data := .fields #[.ref l, .int 0 0] }).get? s.heap.objs.size = some { cls := .type "set", dict := none, data := .set #[] 0 (.fresh 0 0 led) } := Heap.get?_push_of_some _ hS
        exact PyProof.Rows.SetOf_congr ((PyProof.Rows.setObjOf_fresh (knd := strKind P w) led).setOf hget (by unfold scanBound; omega)) (fun _ => by simp) rfl
      · obtain ⟨h', g', d', tk', os'⟩ := s'
        have eg : g' = s.gens := hm.gens
        have ed : d' = s.drawn := hm.drawn
        have eo : os' = s.os := hm.os
        subst eg; subst ed; subst eo
        show wpAny _ _ _ _ _ _
        refine wpAny_pure ?_
        show wpAny _ _ (ret Value.none) _ _ _
        refine wpAny_pure ⟨rfl, h', tk', rfl, by rw [hsz]; exact hS', fun b o hb e => ?_⟩
        refine hm.heap b o ?_ (Heap.get?_push_of_some _ (Heap.get?_push_of_some _ e))
        rw [hps]
        simp only [List.mem_cons, List.not_mem_nil, or_false, not_or]
        exact ⟨Nat.ne_of_lt hb, Nat.ne_of_lt (Nat.lt_succ_of_lt hb)⟩
    · rcases r₂ with e | fl₂
      · exact hr₂
      cases fl₂
      case ret r =>
        obtain ⟨rfl, h', tk, rfl, hS', hk'⟩ := hr₂
        repeat (any_goals (first | assumption | wp_step))
        exact h _ _ hS' hk'
      all_goals exact hr₂.elim
  all_goals exact hr.elim
end
section
variable {X : Cx} {P : Program} {w : World} {K : PySem.W.Frag} {mg : Str → Option Value} {base : Heap} {sc : Scope} {N : List Str} {Vs : List Nat} {GN : List Str} {k : Nat}
variable {σd : Sd} {Gs : Pt} {Q : QD} {R : RX} {a : Expr}
def tLenSetL' (K : PySem.W.Frag) (ta : TE) : TE := fun σ H Q => ta σ H fun x H1 => ∃ (l : Addr) (xs : List Str), x = .ref l ∧ SqL K H1 l (xs.map V.str) ∧ xs.length < 1000 ∧ ∀ c : Nat, c ≤ xs.length → (c = xs.length ↔ xs.Nodup) → Q (.int (c : Int)) H1
theorem pe_lenSetL' {p p2 q pos : Pos} (hc : X.calm = true) (hg : Gl X "len") (hm : X.mg "len" = none) (hg2 : Gl X "set") (hm2 : X.mg "set" = none) {ta : TE} (ha : PE X a ta)
    (na : starEach [a] X.env = (false, eval a X.env) :: starEach [] X.env) : PE X (.Call (.Name "len" p) [.Call (.Name "set" p2) [a] [] q] [] pos) (tLenSetL' X.K ta) := by
  refine ⟨fun pins s σ H Q I h => ?_⟩
  refine Call_ (ld_blt I hg hm boot_len ?_)
  refine PyProof.Rows.callWith_builtin1 (PyProof.Rows.args_cons ?_ rfl) rfl rfl
  refine Call_ (ld_blt I hg2 hm2 boot_set ?_)
  refine PyProof.Rows.callWith_type1 (PyProof.Rows.args_cons (thn (ha.run pins s σ H _ I h) fun v s1 ⟨x, H1, I1, r1, q1⟩ => PyProof.Rows.args_nil ?_) na) na rfl
  obtain ⟨l, xs, rfl, hq, hl, q1⟩ := q1
  cases r1
  obtain ⟨its, r, pl, hz⟩ := I1.list hq
  refine set_of_lst (I1.ok.hd hc) pl.isList (by simpa using L2.strsAre_of r) hl fun h' tk ⟨c, c1, c2, hS⟩ hk => ?_
  refine PyProof.Rows.args_nil ?_
  obtain ⟨o, es, ep, t, ho, hex, hd, _, _, _, hf, hn⟩ := hS
  have I2 : Inv X pins σ H1 { s1 with heap := h', toks := tk } := I1.kept fun b o e => hk b o (Heap.lt_size e) e
  rw [List.take_length] at c2
  exact call_len_set ho hex hd hf (by rw [hn]; omega) ⟨.int (c : Int), H1, I2.tok _, ⟨_, by rw [hn]⟩, q1 c c1 c2⟩
theorem lensetL_ {p p2 q pos : Pos} {i j : Nat} (B : Bd X P w K mg base sc N Vs GN k) (hm : mg "len" = none) (hG : At GN i ("len" : Str)) (hm2 : mg "set" = none) (hG2 : At GN j ("set" : Str))
    (h : EvD X a σd Gs (fun d G => ∃ xs : List Str, LsD X.K G d (xs.map .str) ∧ xs.length < 1000 ∧ ∀ c : Nat, c ≤ xs.length → (c = xs.length ↔ xs.Nodup) → Q (.int (c : Int)) G) R)
    (na : starEach [a] X.env = (false, eval a X.env) :: starEach [] X.env := by rfl) : EvD X (.Call (.Name "len" p) [.Call (.Name "set" p2) [a] [] q] [] pos) σd Gs Q R := by
  intro pn xe E F σ H wh hE ob sl
  obtain ⟨g1, _, _⟩ := B.nm.gl i _ hG.get
  obtain ⟨g2, _, _⟩ := B.nm.gl j _ hG2.get
  refine (pe_lenSetL' (X := X.tr pn xe) B.calm g1 (by rw [show (X.tr pn xe).mg = mg from B.em]; exact hm) g2 (by rw [show (X.tr pn xe).mg = mg from B.em]; exact hm2) PE.self na).get ?_
  refine h.go wh hE Keep.refl ob sl fun v H1 x G1 ob1 k1 _ sl1 rx ⟨xs, ex, hz, q⟩ => ?_
  obtain ⟨l, vs, rfl, t, r⟩ := ex F H1 v ob1 rx
  have e := strs_rel r
  subst e
  exact ⟨l, xs, rfl, .inl (.inl t), hz, fun c c1 c2 => Post.of (d := .int (c : Int)) ob1 k1 rfl (q c c1 c2)⟩
end
end Dl
namespace Dl
open PySem PySem.Spec PyProof.Rows L2
section
variable {X : Cx} {P : Program} {w : World} {K : PySem.W.Frag} {mg : Str → Option Value} {base : Heap} {sc : Scope} {N : List Str} {Vs : List Nat} {GN : List Str} {k : Nat}
variable {σd : Sd} {Gs : Pt} {Q : QD} {R : RX} {e a b c : Expr} {es : List Expr} {pos : Pos}
/-- .. two texts, then o.replace(y, z) of two written texts: behind the first text a token is out -/
theorem semA_rep {sa sb y z : String} {o : Expr} {j0 j1 j2 j3 : Nat} {p0 p1 p2 p3 ap cp : Pos} {σ : L2.St} {H : Hp} {Q : List V → Hp → Prop} (hyz : (Str.ofString y == Str.ofString z) = false)
    (hs : starEach [.Constant (.str sa) j0 p0, .Constant (.str sb) j1 p1, .Call (.Attribute o "replace" ap) [.Constant (.str y) j2 p2, .Constant (.str z) j3 p3] [] cp] X.env =
      [(false, eval (.Constant (.str sa) j0 p0) X.env), (false, eval (.Constant (.str sb) j1 p1) X.env), (false, eval (.Call (.Attribute o "replace" ap) [.Constant (.str y) j2 p2, .Constant (.str z) j3 p3] [] cp) X.env)])
    (hst : starEach [.Constant (.str y) j2 p2, .Constant (.str z) j3 p3] X.env = [(false, eval (.Constant (.str y) j2 p2) X.env), (false, eval (.Constant (.str z) j3 p3) X.env)])
    (hbase : attributeBase o "replace" X.env (eval o X.env) = eval o X.env) (hline : (ap.endLine == cp.line) = true)
    (h : sem X o σ H fun v H1 => ∃ x, v = .str x ∧ x.length + (x.length + 1) * (Str.ofString z).length ≤ 16777216 ∧ Q [.str (Str.ofString sa), .str (Str.ofString sb), .str (Txt.replace x (Str.ofString y) (Str.ofString z))] H1) :
    semA X [.Constant (.str sa) j0 p0, .Constant (.str sb) j1 p1, .Call (.Attribute o "replace" ap) [.Constant (.str y) j2 p2, .Constant (.str z) j3 p3] [] cp] σ H Q := by
  intro pos pins s I
  rw [hs]
  show wpAny _ _ (spliced ((false, eval (.Constant (.str sa) j0 p0) X.env) :: backTo pos [(false, eval (.Constant (.str sb) j1 p1) X.env), (false, eval (.Call (.Attribute o "replace" ap) [.Constant (.str y) j2 p2, .Constant (.str z) j3 p3] [] cp) X.env)])) _ _ s
  refine Calls.spliced_cons (Calls.Constant_str ?_)
  show wpAny _ _ (spliced ((false, eval (.Constant (.str sb) j1 p1) X.env) :: backTo pos [(false, eval (.Call (.Attribute o "replace" ap) [.Constant (.str y) j2 p2, .Constant (.str z) j3 p3] [] cp) X.env)])) _ _ _
  refine Calls.spliced_cons (Calls.Constant_str ?_)
  show wpAny _ _ (spliced ((false, eval (.Call (.Attribute o "replace" ap) [.Constant (.str y) j2 p2, .Constant (.str z) j3 p3] [] cp) X.env) :: backTo pos [])) _ _ _
  refine Calls.spliced_cons (PySem.Call_method2 hbase hst hline ?_)
  refine wpAny_mono (PySem.wpAny_toks (h pins { s with toks := s.toks + 1 + 1 } (I.tok _))) (fun v s1 q => ?_) fun _ _ z => z.2
  obtain ⟨hk, v, H1, I1, r1, x, rfl, hb, q⟩ := q
  have hk : s.toks + 1 + 1 ≤ s1.toks := hk
  obtain ⟨tx, rfl⟩ := r1
  refine ⟨"str", _, F.plainAttrs_str, F.slot_str_replace, F.type_str_replace, typeIs_str _ _ _, (fun _ e => nomatch e), Calls.callWith_builtin rfl (Calls.evalArgs_plain (Calls.spliced_cons (Calls.Constant_str ?_)))⟩
  refine Calls.spliced_cons (Calls.Constant_str (Calls.spliced_nil ?_))
  refine PySem.SC.replace (by show s1.toks ≠ 0; omega) (by show s1.toks + 1 ≠ 0; omega) (by show s1.toks ≠ s1.toks + 1; omega) hyz hb fun t' k => ?_
  refine Calls.spliced_nil ?_
  exact ⟨[.str (Str.ofString sa), .str (Str.ofString sb), .str (Txt.replace x (Str.ofString y) (Str.ofString z))], H1, I1.tok k, .cons ⟨_, rfl⟩ (.cons ⟨_, rfl⟩ (.cons ⟨t', rfl⟩ .nil)), q⟩
theorem e_tupRep {sa sb y z : String} {o : Expr} {j0 j1 j2 j3 x1 : Nat} {p0 p1 p2 p3 ap cp : Pos}
    (h : EvD X o σd Gs (fun d G => ∃ x, d = .str x ∧ x.length + (x.length + 1) * (Str.ofString z).length ≤ 16777216 ∧ Q (.tup [.str (Str.ofString sa), .str (Str.ofString sb), .str (Txt.replace x (Str.ofString y) (Str.ofString z))]) G) R)
    (hyz : (Str.ofString y == Str.ofString z) = false := by decide +kernel)
    (hs : starEach [.Constant (.str sa) j0 p0, .Constant (.str sb) j1 p1, .Call (.Attribute o "replace" ap) [.Constant (.str y) j2 p2, .Constant (.str z) j3 p3] [] cp] X.env =
      [(false, eval (.Constant (.str sa) j0 p0) X.env), (false, eval (.Constant (.str sb) j1 p1) X.env), (false, eval (.Call (.Attribute o "replace" ap) [.Constant (.str y) j2 p2, .Constant (.str z) j3 p3] [] cp) X.env)] := by rfl)
    (hst : starEach [.Constant (.str y) j2 p2, .Constant (.str z) j3 p3] X.env = [(false, eval (.Constant (.str y) j2 p2) X.env), (false, eval (.Constant (.str z) j3 p3) X.env)] := by rfl)
    (hbase : attributeBase o "replace" X.env (eval o X.env) = eval o X.env := by rfl) (hline : (ap.endLine == cp.line) = true := by rfl) :
    EvD X (.Tuple [.Constant (.str sa) j0 p0, .Constant (.str sb) j1 p1, .Call (.Attribute o "replace" ap) [.Constant (.str y) j2 p2, .Constant (.str z) j3 p3] [] cp] x1 pos) σd Gs Q R := by
  intro pn xe E F σ H wh hE ob sl
  refine (pe_tup (X := X.tr pn xe) PA.self).get ?_
  refine semA_rep (X := X.tr pn xe) hyz hs hst hbase hline ?_
  refine h.go wh hE Keep.refl ob sl fun v H1 x G1 ob1 k1 _ sl1 rx ⟨t, et, hb, q⟩ => ?_
  subst et
  cases (show v = .str t from rx)
  refine ⟨t, rfl, hb, by show 3 ≤ sizeLine; rw [sizeLine_eq]; decide, fun p hp => ?_⟩
  have k3 := Keep.newF (N := dm (tot G1 F)) (o := .tup [.str (Str.ofString sa), .str (Str.ofString sb), .str (Txt.replace t (Str.ofString y) (Str.ofString z))]) hp
  exact Post.of (d := .tup [.str (Str.ofString sa), .str (Str.ofString sb), .str (Txt.replace t (Str.ofString y) (Str.ofString z))]) (ob1.newF hp) (k1.trans k3) ⟨p, _, rfl, .inl ⟨ob1.mem_none hp, .inl upd_same⟩, ⟨_, _, rfl, rfl, ⟨_, _, rfl, rfl, ⟨_, _, rfl, rfl, rfl⟩⟩⟩⟩ q
end
/-- one sign instead of another -/
theorem replL_one (y z : Nat) : ∀ l : List Nat, PySem.StrLaws.replL [y] [z] l = l.map fun c => if c = y then z else c
  | [] => PySem.StrLaws.replL_nil
  | c :: r => by
    rw [List.map_cons, ← replL_one y z r]
    by_cases h : c = y
    · rw [PySem.StrLaws.replL_hit (y := [y]) (by simp) (by simp [h]), if_pos h]
      rfl
    · rw [PySem.StrLaws.replL_miss (y := [y]) (by simp [h]), if_neg h]
end Dl
namespace Dl
open PySem PySem.Spec PyProof.Rows L2
/-! ### dicts whose keys are tuples -/
def keyOf : D → Key
  | .int i => .inl i
  | .str x => .inr x
  | _ => .inl 0
section
variable {X : Cx} {P : Program} {w : World} {K : PySem.W.Frag} {mg : Str → Option Value} {base : Heap} {sc : Scope} {N : List Str} {Vs : List Nat} {GN : List Str} {k : Nat}
variable {σd : Sd} {Gs : Pt} {Q : QD} {R : RX} {pos : Pos}
theorem rd_keys {N' : List Addr} {H : Hp} : ∀ {ks : List Key} {vs : List V}, RDs K N' H (ks.map keyD) vs → vs = ks.map kV
  | [], _, h => h
  | k :: ks, _, h => by
    obtain ⟨v, r, rfl, h1, h2⟩ := h
    rw [List.map_cons, rd_key h1, rd_keys h2]
theorem keyT_sq {N' : List Addr} {H : Hp} {ks : List Key} {v : V} (r : RD K N' H (.tup (ks.map keyD)) v) : ∃ q, v = .ref q ∧ SqT K H q (ks.map kV) := by
  obtain ⟨a, vs, e, t, rr⟩ := tup_sq r
  rw [rd_keys rr] at t
  exact ⟨a, e, t⟩
/-- a tuple of ints and texts is a key -/
theorem key_ofX {pins : List (Addr × Obj)} {σ : L2.St} {H : Hp} {s : Shared} {q : Addr} {ks : List Key} (I : Inv X pins σ H s) (h : SqT X.K H q (ks.map kV)) : (tupleKind (mixKind X.prog X.w)).is s.heap ks q := by
  rcases h with h | ⟨o, its, n, hl, hc, hd, _, hv⟩
  · obtain ⟨_, its, r, o, h1, h2, n, h3⟩ := (show ObjOk X.prog X.w H s.heap q (.tup (ks.map kV)) from rd_of I.hok h)
    exact ⟨o, its.toArray, n, h1, h2, h3, by simpa using items_are r⟩
  · exact ⟨o, its, n, I.kIn _ _ hl, hc, hd, items_are hv⟩
theorem kx_len {N' : List Addr} {H : Hp} : ∀ {kvs : List (List Key × D)} {xs : List (List Key × Addr × Value)}, KX K N' H kvs xs → xs.length = kvs.length
  | [], _, h => by cases (show _ = [] from h); rfl
  | (_, _) :: r, _, h => by
    obtain ⟨q, u, v, xs', rfl, _, _, _, h3⟩ := h
    rw [List.length_cons, List.length_cons, kx_len h3]
theorem kx_val {N' : List Addr} {H : Hp} (j : List Key) : ∀ {kvs : List (List Key × D)} {xs : List (List Key × Addr × Value)}, KX K N' H kvs xs →
    (valD kvs j = none ∧ atKey xs j = none) ∨ ∃ d v q u, valD kvs j = some d ∧ atKey xs j = some (q, u) ∧ RelV v u ∧ RD K N' H d v
  | [], _, h => by
    cases (show _ = [] from h)
    exact .inl ⟨rfl, rfl⟩
  | (a, d) :: r, _, h => by
    obtain ⟨q, u, v, xs', rfl, _, h1, h2, h3⟩ := h
    by_cases e : a = j
    · refine .inr ⟨d, v, q, u, ?_, ?_, h1, h2⟩
      · unfold valD
        rw [List.find?_cons_of_pos (by simpa using e)]
        rfl
      · unfold atKey
        rw [List.find?_cons_of_pos (by simpa using e)]
        rfl
    · have e1 : valD ((a, d) :: r) j = valD r j := by
        unfold valD
        rw [List.find?_cons_of_neg (by simpa using e)]
      have e2 : atKey ((a, q, u) :: xs') j = atKey xs' j := by
        unfold atKey
        rw [List.find?_cons_of_neg (by simpa using e)]
      rw [e1, e2]
      exact kx_val j h3
theorem kx_any {N' : List Addr} {H : Hp} (j : List Key) {kvs : List (List Key × D)} {xs : List (List Key × Addr × Value)} (h : KX K N' H kvs xs) : (kvs.any fun kv => decide (kv.1 = j)) = (atKey xs j).isSome := by
  have e : ∀ l : List (List Key × D), (l.any fun kv => decide (kv.1 = j)) = (valD l j).isSome := by
    intro l
    induction l with
    | nil => rfl
    | cons p r ih =>
      rw [List.any_cons]
      by_cases e : p.1 = j
      · unfold valD
        rw [List.find?_cons_of_pos (by simpa using e), decide_eq_true e]
        rfl
      · unfold valD at ih ⊢
        rw [List.find?_cons_of_neg (by simpa using e), decide_eq_false e, Bool.false_or]
        exact ih
  rw [e]
  rcases kx_val j h with ⟨g1, g2⟩ | ⟨d, v, q, u, g1, g2, _⟩ <;> rw [g1, g2] <;> rfl
theorem kx_map {N' : List Addr} {H : Hp} (j : List Key) {d : D} {v : V} {u : Value} (rv : RelV v u) (rd : RD K N' H d v) : ∀ {kvs : List (List Key × D)} {xs : List (List Key × Addr × Value)}, KX K N' H kvs xs →
    KX K N' H (kvs.map fun x => if x.1 = j then (x.1, d) else x) (xs.map (putAt j u))
  | [], _, h => by
    cases (show _ = [] from h)
    rfl
  | (a, d') :: r, _, h => by
    obtain ⟨q, u', v', xs', rfl, h0, h1, h2, h3⟩ := h
    have ih := kx_map j rv rd h3
    rw [List.map_cons, List.map_cons]
    unfold putAt at ih ⊢
    by_cases e : a = j
    · rw [if_pos e, if_pos e]
      exact ⟨q, u, v, _, rfl, h0, rv, rd, ih⟩
    · rw [if_neg e, if_neg e]
      exact ⟨q, u', v', _, rfl, h0, h1, h2, ih⟩
theorem kx_app {N' : List Addr} {H : Hp} (j : List Key) {d : D} {v : V} {u : Value} {b : Addr} (hb : RD K N' H (.tup (j.map keyD)) (.ref b)) (rv : RelV v u) (rd : RD K N' H d v) : ∀ {kvs : List (List Key × D)} {xs : List (List Key × Addr × Value)}, KX K N' H kvs xs →
    KX K N' H (kvs ++ [(j, d)]) (xs ++ [(j, b, u)])
  | [], _, h => by
    cases (show _ = [] from h)
    exact ⟨b, u, v, [], rfl, hb, rv, rd, rfl⟩
  | (a, d') :: r, _, h => by
    obtain ⟨q, u', v', xs', rfl, h0, h1, h2, h3⟩ := h
    exact ⟨q, u', v', _, rfl, h0, h1, h2, kx_app j hb rv rd h3⟩
theorem kx_put {N' : List Addr} {H : Hp} (j : List Key) {d : D} {v : V} {u : Value} {b : Addr} (hb : RD K N' H (.tup (j.map keyD)) (.ref b)) (rv : RelV v u) (rd : RD K N' H d v) {kvs : List (List Key × D)} {xs : List (List Key × Addr × Value)} (h : KX K N' H kvs xs) :
    KX K N' H (putD kvs j d) (storedH xs j b u) := by
  unfold putD storedH
  rw [kx_any j h]
  split
  · exact kx_map j rv rd h
  · exact kx_app j hb rv rd h
theorem kx_drop {N' : List Addr} {H : Hp} (j : List Key) : ∀ {kvs : List (List Key × D)} {xs : List (List Key × Addr × Value)}, KX K N' H kvs xs → KX K N' H (dropD kvs j) (DT.dropH xs j)
  | [], _, h => by
    cases (show _ = [] from h)
    rfl
  | (a, d') :: r, _, h => by
    obtain ⟨q, u', v', xs', rfl, h0, h1, h2, h3⟩ := h
    have ih := kx_drop j h3
    unfold dropD DT.dropH at ih ⊢
    by_cases e : a = j
    · rw [List.filter_cons_of_neg (by simpa using e), List.filter_cons_of_neg (by simpa using e)]
      exact ih
    · rw [List.filter_cons_of_pos (by simpa using e), List.filter_cons_of_pos (by simpa using e)]
      exact ⟨q, u', v', _, rfl, h0, h1, h2, ih⟩
/-- the dict at p as the kit's rules want it -/
theorem dx_of {pins : List (Addr × Obj)} {σ : L2.St} {H : Hp} {s : Shared} {N' : List Addr} {p : Addr} {xs : List (List Key × Addr × Value)} {ep : Nat} {kvs : List (List Key × D)} (I : Inv X pins σ H s) (e : H p = some (.ext (Dx X.prog X.w p xs ep)))
    (hn : (xs.map (·.1)).Nodup) (hk : KX X.K N' H kvs xs) : s.heap.DictOfH (tupleKind (mixKind X.prog X.w)) p xs := by
  obtain ⟨⟨o, es, h1, h2, h3, h4⟩, _⟩ := (show ObjOk X.prog X.w H s.heap p (.ext (Dx X.prog X.w p xs ep)) from I.hok p _ e)
  refine ⟨o, es, ep, h1, h2, h3, h4, ?_, hn⟩
  have all : ∀ {l : List (List Key × D)} {m : List (List Key × Addr × Value)}, KX X.K N' H l m → ∀ x ∈ m, (tupleKind (mixKind X.prog X.w)).is s.heap x.1 x.2.1 := by
    intro l
    induction l with
    | nil =>
      intro m q x hx
      cases (show m = [] from q)
      cases hx
    | cons a r ih =>
      intro m q x hx
      obtain ⟨b, u, v, xs', rfl, h0, _, _, hr⟩ := q
      rcases List.mem_cons.mp hx with rfl | hx
      · obtain ⟨_, e1, e2⟩ := keyT_sq h0
        cases e1
        exact key_ofX I e2
      · exact ih hr x hx
  exact all hk
theorem dx_ok {H : Hp} {h : Heap} {p : Addr} {xs : List (List Key × Addr × Value)} (d : h.DictOfH (tupleKind (mixKind P w)) p xs) : ∃ ep, ObjOk P w H h p (.ext (Dx P w p xs ep)) ∧ (xs.map (·.1)).Nodup := by
  obtain ⟨o, es, ep, h1, h2, h3, h4, _, h5⟩ := d
  exact ⟨ep, ⟨⟨o, es, h1, h2, h3, h4⟩, ⟨o, h1⟩, fun h1' h2' ⟨o', es', g1, g2⟩ k => ⟨o', es', k _ g1, g2⟩⟩, h5⟩
/-- {} whose keys will be tuples -/
theorem e_dctT (B : Bd X P w K mg base sc N Vs GN k) (q : ∀ p, Q (.ref p) ([(p, .dT P w p [])] :: Gs)) : EvD X (.Dict [] [] pos) σd Gs Q R := by
  intro pn xe E F σ H wh hE ob sl
  have eP := B.eP
  have ew := B.ew
  intro pins s I
  have hs := I.hok.fresh (Nat.le_refl s.heap.objs.size)
  have hb : (s.heap.objs.size == sysModules) = false := beq_eq_false_iff_ne.mpr (Ne.symm (Nat.ne_of_lt I.big))
  refine wpAny_Dict_empty ⟨.ref s.heap.objs.size, _, I.laid (a := s.heap.objs.size) (o := .ext (Dx X.prog X.w s.heap.objs.size [] 0)) (t' := s.toks) (fun _ _ q => Heap.get?_push_of_some _ q) (Nat.le_refl _) ?_, rfl, ?_⟩
  · exact ⟨⟨_, #[], Heap.get?_push_size _ rfl, ⟨rfl, rfl, rfl⟩, rfl, rfl⟩, ⟨_, Heap.get?_push_size _ rfl⟩, fun h1' h2' ⟨o', es', g1, g2⟩ k => ⟨o', es', k _ g1, g2⟩⟩
  · have r : Rc X.K (dm (tot Gs F)) H (.dT P w s.heap.objs.size []) (.ext (Dx X.prog X.w s.heap.objs.size [] 0)) := ⟨[], 0, by rw [eP, ew], Nat.zero_le _, hb, List.nodup_nil, rfl⟩
    exact Post.of (d := .ref s.heap.objs.size) (ob.new (m := .dT P w s.heap.objs.size []) hs r) (Keep.newO hs) rfl (q _)
/-! the rules by values; kvs' stands for what the dict holds -/
def rIxT (X : Cx) : R2 := fun x y H Q => ∃ p q ks xs ep N' kvs b v u, x = .ref p ∧ y = .ref q ∧ SqT X.K H q (ks.map kV) ∧ H p = some (.ext (Dx X.prog X.w p xs ep)) ∧ (xs.map (·.1)).Nodup ∧ KX X.K N' H kvs xs ∧ atKey xs ks = some (b, u) ∧ RelV v u ∧ Q v H
theorem ixr_T (hu : X.A.units + 1 < cLine) : IxR X (rIxT X) := by
  intro value slice pins s σ H x y v u Q I rx ry h hs
  obtain ⟨p, q, ks, xs, ep, N', kvs, b, v1, u1, rfl, rfl, hq, e, hn, hk, ha, rv, hQ⟩ := h
  cases rx
  cases ry
  have dd := dx_of I e hn hk
  exact tail_any dd.typeIs slot_dict_getitem.lookup (wpAny_getItem_heap (tupleKind_room_in1 hu) (key_ofX I hq) dd ha ⟨v1, H, I.tok _, rv, hQ⟩) hs
theorem ix_dT {p : Addr} {kvs : List (List Key × D)} {ds : List D} {d : D} (B : Bd X P w K mg base sc N Vs GN k) (h : Has Gs p (.dT P w p kvs)) (hv : valD kvs (ds.map keyOf) = some d) (q : Q d Gs) (hds : (ds.map keyOf).map keyD = ds := by rfl) : IxD X (.ref p) (.tup ds) Gs Q := by
  have eP := B.eP
  have ew := B.ew
  refine ⟨rIxT X, fun pn xe => ixr_T (X := X.tr pn xe) (hu1 (X := X) B), fun F H vx vy ob rx ry => ?_⟩
  cases (show vx = .ref p from rx)
  rw [← hds] at ry
  obtain ⟨b, rfl, hq⟩ := keyT_sq ry
  obtain ⟨o, e, xs, ep, rfl, z, hd, hn, hk⟩ := ob.get h
  rcases kx_val (ds.map keyOf) hk with ⟨g1, _⟩ | ⟨d', v, qa, u, g1, g2, rv, rd⟩
  · rw [g1] at hv; cases hv
  · rw [g1] at hv
    cases hv
    exact ⟨p, b, ds.map keyOf, xs, ep, _, kvs, qa, v, u, rfl, rfl, hq, by rw [eP, ew]; exact e, hn, hk, g2, rv, Post.of ob Keep.refl rd q⟩
def rGetT (X : Cx) : V → List V → Hp → VK → Prop := fun x ys H Q => ∃ p q ks xs ep N' kvs, x = .ref p ∧ ys = [.ref q] ∧ SqT X.K H q (ks.map kV) ∧ H p = some (.ext (Dx X.prog X.w p xs ep)) ∧ (p == sysModules) = false ∧ (xs.map (·.1)).Nodup ∧ KX X.K N' H kvs xs ∧
  (∀ b u v, atKey xs ks = some (b, u) → RelV v u → Q v H) ∧ (atKey xs ks = none → Q .non H)
theorem mt_getT (hu : X.A.units + 1 < cLine) : MtR X "dict.get" (rGetT X) := by
  intro pins s σ H x ys v us Q I rx rys h
  obtain ⟨p, q, ks, xs, ep, N', kvs, rfl, rfl, hq, e, hd, hn, hk, q1, q2⟩ := h
  cases rx
  cases rys with
  | cons r1 rr =>
    cases rr
    cases r1
    have dd := dx_of I e hn hk
    refine call_meetsIn PySem.F.slot_dict_get dd.typeIs PySem.F.entry_dict_get (PySem.F.args_dict_get_2 _ _) (meetsH_dict_get (tupleKind (mixKind X.prog X.w)) p q hd) ⟨tupleKind_room_in1 hu, ks, xs, key_ofX I hq, dd, ?_⟩
    rcases kx_val ks hk with ⟨_, g2⟩ | ⟨d', v, qa, u, _, g2, rv, _⟩
    · rw [g2]
      exact ⟨.non, H, I.tok _, rfl, q2 g2⟩
    · rw [g2]
      exact ⟨v, H, I.tok _, rv, q1 _ _ _ g2 rv⟩
theorem relV_uniq {v v' : V} {u : Value} (h : RelV v u) (h' : RelV v' u) : v = v' := Option.some.inj (h.abs.symm.trans h'.abs)
theorem m_tget1 {p : Addr} {kvs : List (List Key × D)} {ds : List D} (B : Bd X P w K mg base sc N Vs GN k) (h : Has Gs p (.dT P w p kvs)) (q : Q ((valD kvs (ds.map keyOf)).getD .non) Gs) (hds : (ds.map keyOf).map keyD = ds := by rfl) : MetD X "dict.get" (.ref p) [.tup ds] Gs Q := by
  have eP := B.eP
  have ew := B.ew
  refine ⟨rGetT X, fun pn xe => mt_getT (X := X.tr pn xe) (hu1 (X := X) B), fun F H vx vs ob rx rs => ?_⟩
  cases (show vx = .ref p from rx)
  obtain ⟨v1, _, rfl, r1, rfl⟩ := rs
  rw [← hds] at r1
  obtain ⟨b, rfl, hq⟩ := keyT_sq r1
  obtain ⟨o, e, xs, ep, rfl, z, hd, hn, hk⟩ := ob.get h
  refine ⟨p, b, ds.map keyOf, xs, ep, _, kvs, rfl, rfl, hq, by rw [eP, ew]; exact e, hd, hn, hk, ?_⟩
  rcases kx_val (ds.map keyOf) hk with ⟨g1, g2⟩ | ⟨d', v, qa, u, g1, g2, rv, rd⟩
  · rw [g1] at q
    refine ⟨fun b u v z _ => ?_, fun _ => Post.of (d := .non) ob Keep.refl rfl q⟩
    rw [g2] at z
    cases z
  · rw [g1] at q
    refine ⟨fun b u' v' z rv' => ?_, fun z => ?_⟩
    · rw [g2] at z
      cases z
      rw [relV_uniq rv' rv]
      exact Post.of ob Keep.refl rd q
    · rw [g2] at z
      cases z
/-- what is behind a change of the dict at p -/
def rPopTT (X : Cx) : V → List V → Hp → VK → Prop := fun x ys H Q => ∃ p q ks xs ep N' kvs d0, x = .ref p ∧ ys = [.ref q, d0] ∧ SqT X.K H q (ks.map kV) ∧ H p = some (.ext (Dx X.prog X.w p xs ep)) ∧ (p == sysModules) = false ∧ xs.length ≤ sizeLine ∧ (xs.map (·.1)).Nodup ∧ KX X.K N' H kvs xs ∧
  (∀ b u v ep', atKey xs ks = some (b, u) → RelV v u → ((DT.dropH xs ks).map (·.1)).Nodup → Q v (L2.upd H p (.ext (Dx X.prog X.w p (DT.dropH xs ks) ep')))) ∧ (atKey xs ks = none → Q d0 H)
theorem mt_popTT (hu : X.A.units + 1 < cLine) : MtR X "dict.pop" (rPopTT X) := by
  intro pins s σ H x ys v us Q I rx rys h
  obtain ⟨p, q, ks, xs, ep, N', kvs, d0, rfl, rfl, hq, e, hd, hz, hn, hk, q1, q2⟩ := h
  cases rx
  obtain ⟨u1, u2, rfl, r1, r2⟩ := vals2 rys
  cases r1
  have dd := dx_of I e hn hk
  refine call_meetsIn PySem.F.slot_dict_pop dd.typeIs PySem.F.entry_dict_pop (PySem.F.args_dict_pop_3 _ _ _) (DT.meetsPop (knd := tupleKind (mixKind X.prog X.w)) (k := ks) u2 hd)
    ⟨xs, tupleKind_room_in1 hu, key_ofX I hq, dd, hz, fun hn tk => ⟨d0, H, I.tok tk, r2, q2 hn⟩, fun pp hp h' tk dd' hs => ?_⟩
  obtain ⟨ep', ok, hn'⟩ := dx_ok (P := X.prog) (w := X.w) (H := L2.upd H p (.ext (Dx X.prog X.w p (DT.dropH xs ks) 0))) dd'
  rcases kx_val ks hk with ⟨_, g2⟩ | ⟨d', v, qa, u, _, g2, rv, _⟩
  · rw [g2] at hp
    cases hp
  · rw [g2] at hp
    cases hp
    have he : ∃ o, h'.get? p = some o := let ⟨o, _, _, ho, _⟩ := dd'; ⟨o, ho⟩
    have I2 : Inv X pins σ (L2.upd H p (.ext (Dx X.prog X.w p (DT.dropH xs ks) ep'))) { s with heap := h', toks := tk } :=
      d_write I (by rw [e]; exact True.intro) hs he ok
    exact ⟨v, _, I2, rv, q1 _ _ _ _ g2 rv hn'⟩
theorem m_tpop2 {p : Addr} {kvs : List (List Key × D)} {ds : List D} {d0 : D} {Gs' : Pt} (B : Bd X P w K mg base sc N Vs GN k) (u : Upd Gs p (.dT P w p kvs) (.dT P w p (dropD kvs (ds.map keyOf))) Gs') (q1 : ∀ d, valD kvs (ds.map keyOf) = some d → Q d Gs') (q2 : valD kvs (ds.map keyOf) = none → Q d0 Gs)
    (hds : (ds.map keyOf).map keyD = ds := by rfl) : MetD X "dict.pop" (.ref p) [.tup ds, d0] Gs Q := by
  have eP := B.eP
  have ew := B.ew
  refine ⟨rPopTT X, fun pn xe => mt_popTT (X := X.tr pn xe) (hu1 (X := X) B), fun F H vx vs ob rx rs => ?_⟩
  cases (show vx = .ref p from rx)
  obtain ⟨v1, _, rfl, r1, v2, _, rfl, r2, rfl⟩ := rs
  rw [← hds] at r1
  obtain ⟨b, rfl, hq⟩ := keyT_sq r1
  obtain ⟨o, e, xs, ep, rfl, z, hd, hn, hk⟩ := ob.get u.has
  refine ⟨p, b, ds.map keyOf, xs, ep, _, kvs, v2, rfl, rfl, hq, by rw [eP, ew]; exact e, hd, z, hn, hk, ?_⟩
  rcases kx_val (ds.map keyOf) hk with ⟨g1, g2⟩ | ⟨d', v, qa, u1, g1, g2, rv, rd⟩
  · refine ⟨fun b u v ep' z _ _ => ?_, fun _ => Post.of ob Keep.refl r2 (q2 g1)⟩
    rw [g2] at z
    cases z
  · refine ⟨fun b u' v' ep' z1 rv' hn' => ?_, fun z => ?_⟩
    · rw [g2] at z1
      cases z1
      rw [relV_uniq rv' rv]
      have ob' := ob.upd (m' := .dT P w p (dropD kvs (ds.map keyOf))) (o := .ext (Dx X.prog X.w p (DT.dropH xs (ds.map keyOf)) ep')) u ⟨_, ep', by rw [eP, ew], by unfold DT.dropH; exact Nat.le_trans (List.length_filter_le _ _) z, hd, hn', kx_drop _ hk⟩
      exact Post.of ob' (Keep.updD u) (RD.keep (Keep.updD u) _ _ rd) (q1 _ g1)
    · rw [g2] at z
      cases z
def rSetT (X : Cx) : TSet := fun o i v H Q => ∃ p q ks xs ep N' kvs, o = .ref p ∧ i = .ref q ∧ SqT X.K H q (ks.map kV) ∧ H p = some (.ext (Dx X.prog X.w p xs ep)) ∧ xs.length ≤ sizeLine ∧ (xs.map (·.1)).Nodup ∧ KX X.K N' H kvs xs ∧
  ∀ u ep', RelV v u → ((storedH xs ks q u).map (·.1)).Nodup → Q (L2.upd H p (.ext (Dx X.prog X.w p (storedH xs ks q u) ep')))
theorem set_T (hu : X.A.units + 1 < cLine) : PSet X (rSetT X) := by
  intro pins s σ H o i v ov iv u Q I ro ri rv h
  obtain ⟨p, q, ks, xs, ep, N', kvs, rfl, rfl, hq, e, hz, hn, hk, qq⟩ := h
  cases ro
  cases ri
  have dd := dx_of I e hn hk
  refine wpAny_setItem_heap (hsz := hz) (tupleKind_room_in1 hu) (key_ofX I hq) dd fun h' dd' hs => ?_
  obtain ⟨ep', ok, hn'⟩ := dx_ok (P := X.prog) (w := X.w) (H := L2.upd H p (.ext (Dx X.prog X.w p (storedH xs ks q u) 0))) dd'
  have he : ∃ o, h'.get? p = some o := let ⟨o, _, _, ho, _⟩ := dd'; ⟨o, ho⟩
  exact ⟨_, d_write I (by rw [e]; exact True.intro) hs he ok, qq u ep' rv hn'⟩
theorem len_storedH {xs : List (List Key × Addr × Value)} {ks : List Key} {q : Addr} {u : Value} : (storedH xs ks q u).length ≤ xs.length + 1 := by
  unfold storedH
  split
  · rw [List.length_map]; omega
  · rw [List.length_append, List.length_singleton]; omega
theorem set_dT {p : Addr} {kvs : List (List Key × D)} {ds : List D} {d : D} {Gs' : Pt} {Z : Pt → Prop} (B : Bd X P w K mg base sc N Vs GN k) (u : Upd Gs p (.dT P w p kvs) (.dT P w p (putD kvs (ds.map keyOf) d)) Gs') (hz : kvs.length < sizeLine) (q : Z Gs')
    (hds : (ds.map keyOf).map keyD = ds := by rfl) : SetD X (.ref p) (.tup ds) d Gs Z := by
  have eP := B.eP
  have ew := B.ew
  refine ⟨rSetT X, fun pn xe => set_T (X := X.tr pn xe) (hu1 (X := X) B), fun F H vo vi v ob ro ri rv => ?_⟩
  cases (show vo = .ref p from ro)
  rw [← hds] at ri
  have ri0 := ri
  obtain ⟨b, rfl, hq⟩ := keyT_sq ri
  obtain ⟨o, e, xs, ep, rfl, z, hd, hn, hk⟩ := ob.get u.has
  refine ⟨p, b, ds.map keyOf, xs, ep, _, kvs, rfl, rfl, hq, by rw [eP, ew]; exact e, z, hn, hk, fun u1 ep' r1 hn' => ?_⟩
  refine ⟨Gs', ob.upd (m' := .dT P w p (putD kvs (ds.map keyOf) d)) u ⟨_, ep', by rw [eP, ew], ?_, hd, hn', kx_put _ ri0 r1 rv hk⟩, Keep.updD u, q⟩
  have := len_storedH (xs := xs) (ks := ds.map keyOf) (q := b) (u := u1)
  rw [kx_len hk] at this
  omega
end
end Dl
namespace Dl
open PySem PySem.Spec PyProof.Rows L2
/-! ### a cell that is no value's part may be taken in again -/
section
variable {K : PySem.W.Frag} {N : List Addr} {H : Hp} {p : Addr} {φ : Heap → Prop}
theorem ext_ne {a : Addr} {u : HO} (hp : H p = some (.ext φ)) (h : H a = some u) (n : a ∉ N) (hu : ∀ φ, u ≠ .ext φ) : a ∉ p :: N := fun z => by
  rcases List.mem_cons.mp z with rfl | z
  · rw [hp] at h
    cases h
    exact hu _ rfl
  · exact n z
theorem ext_rd {a : Addr} {u : HO} (hp : H p = some (.ext φ)) (h : Rd H a u) (n : a ∉ N) (hu : ∀ φ, u ≠ .ext φ) : a ∉ p :: N := by
  rcases h with h | ⟨o, h⟩
  · exact ext_ne hp h n hu
  · exact ext_ne hp h n fun _ z => nomatch z
mutual
theorem RD.thaw (hp : H p = some (.ext φ)) : ∀ (d : D) (v : V), RD K N H d v → RD K (p :: N) H d v
  | .non, _, h => h
  | .bl _, _, h => h
  | .int _, _, h => h
  | .str _, _, h => h
  | .ref _, _, h => h
  | .scr _, _, h => by
    obtain ⟨a, e, t⟩ := h
    refine ⟨a, e, ?_⟩
    rcases t with ⟨n, t⟩ | t
    · exact .inl ⟨ext_rd hp t n (fun _ z => nomatch z), t⟩
    · exact .inr t
  | .tup ds, _, h => by
    obtain ⟨a, vs, e, t, r⟩ := h
    refine ⟨a, vs, e, ?_, RDs.thaw hp ds vs r⟩
    rcases t with ⟨n, t⟩ | t
    · exact .inl ⟨ext_rd hp t n (fun _ z => nomatch z), t⟩
    · exact .inr t
  | .lst ds, _, h => by
    obtain ⟨a, vs, e, n, t, r⟩ := h
    exact ⟨a, vs, e, ext_ne hp t n (fun _ z => nomatch z), t, RDs.thaw hp ds vs r⟩
  | .dct kvs, _, h => by
    obtain ⟨a, o, vs, e, n, t, r⟩ := h
    exact ⟨a, o, vs, e, ext_ne hp t n (fun _ z => nomatch z), t, RDk.thaw hp kvs vs r⟩
  | .ins C ns ds, _, h => by
    obtain ⟨a, dx, vs, e, n, t, l, r⟩ := h
    exact ⟨a, dx, vs, e, ext_ne hp t n (fun _ z => nomatch z), t, l, RDs.thaw hp ds vs r⟩
  | .exc a d ns ds, _, h => by
    obtain ⟨e, vs, n, t, l, r⟩ := h
    exact ⟨e, vs, ext_ne hp t n (fun _ z => nomatch z), t, l, RDs.thaw hp ds vs r⟩
theorem RDs.thaw (hp : H p = some (.ext φ)) : ∀ (ds : List D) (vs : List V), RDs K N H ds vs → RDs K (p :: N) H ds vs
  | [], _, h => h
  | d :: ds, _, h => by
    obtain ⟨v, r, e, h1, h2⟩ := h
    exact ⟨v, r, e, RD.thaw hp d v h1, RDs.thaw hp ds r h2⟩
theorem RDk.thaw (hp : H p = some (.ext φ)) : ∀ (ds : List (Key × D)) (vs : List (Key × V)), RDk K N H ds vs → RDk K (p :: N) H ds vs
  | [], _, h => h
  | (_, d) :: ds, _, h => by
    obtain ⟨v, r, e, h1, h2⟩ := h
    exact ⟨v, r, e, RD.thaw hp d v h1, RDk.thaw hp ds r h2⟩
end
theorem KD.thaw {κ : Type} (hp : H p = some (.ext φ)) : ∀ (ds : List (κ × D)) (vs : List (κ × V)), KD K N H ds vs → KD K (p :: N) H ds vs
  | [], _, h => h
  | (_, d) :: ds, _, h => by
    obtain ⟨v, r, e, h1, h2⟩ := h
    exact ⟨v, r, e, RD.thaw hp d v h1, KD.thaw hp ds r h2⟩
theorem KX.thaw (hp : H p = some (.ext φ)) : ∀ (ds : List (List Key × D)) (xs : List (List Key × Addr × Value)), KX K N H ds xs → KX K (p :: N) H ds xs
  | [], _, h => h
  | (_, d) :: ds, _, h => by
    obtain ⟨q, u, v, r, e, h0, h1, h2, h3⟩ := h
    exact ⟨q, u, v, r, e, RD.thaw hp _ _ h0, h1, RD.thaw hp d v h2, KX.thaw hp ds r h3⟩
theorem Rc.thaw (hp : H p = some (.ext φ)) {m : M} {o : HO} (h : Rc K N H m o) : Rc K (p :: N) H m o := by
  cases m with
  | lst ds => obtain ⟨vs, h1, h2⟩ := h; exact ⟨vs, h1, RDs.thaw hp _ _ h2⟩
  | dK kvs => obtain ⟨vs, h1, h2⟩ := h; exact ⟨vs, h1, KD.thaw hp _ _ h2⟩
  | dT P w a kvs => obtain ⟨xs, ep, h1, h2, h3, h4, h5⟩ := h; exact ⟨xs, ep, h1, h2, h3, h4, KX.thaw hp _ _ h5⟩
  | ins C ns ds => obtain ⟨dx, vs, h1, h2, h3⟩ := h; exact ⟨dx, vs, h1, h2, RDs.thaw hp _ _ h3⟩
theorem Sl.thaw (hp : H p = some (.ext φ)) {σd : Sd} {σ : L2.St} (s : Sl K N H σd σ) : Sl K (p :: N) H σd σ := ⟨s.1, fun i d e => let ⟨v, e2, r⟩ := s.2 i d e; ⟨v, e2, RD.thaw hp d v r⟩⟩
theorem Ob.thaw {G : List Cell} {m : M} (ob : Ob K G H) (n : p ∉ dm G) (hp : H p = some (.ext φ)) (r : Rc K (dm G) H m (.ext φ)) : Ob K ((p, m) :: G) H := by
  refine ⟨List.nodup_cons.mpr ⟨n, ob.nd⟩, fun a x h => ?_⟩
  show Rm K (p :: dm G) H a x
  rcases List.mem_cons.mp h with e | h
  · cases e
    exact ⟨_, hp, r.thaw hp⟩
  · obtain ⟨o, h1, h2⟩ := ob.at_ a x h
    exact ⟨o, h1, h2.thaw hp⟩
end
/-! ### a cell taken out -/
inductive CutL : List Cell → Addr → M → List Cell → Prop
  | here {a : Addr} {m : M} {P : List Cell} : CutL ((a, m) :: P) a m P
  | next {a : Addr} {m : M} {c : Cell} {P P' : List Cell} : CutL P a m P' → CutL (c :: P) a m (c :: P')
inductive Cut : Pt → Addr → M → Pt → Prop
  | here {a : Addr} {m : M} {P P' : List Cell} {r : Pt} : CutL P a m P' → Cut (P :: r) a m (P' :: r)
  | next {a : Addr} {m : M} {P : List Cell} {r r' : Pt} : Cut r a m r' → Cut (P :: r) a m (P :: r')
theorem CutL.perm {P P' : List Cell} {a : Addr} {m : M} (h : CutL P a m P') : ((a, m) :: P').Perm P := by
  induction h with
  | here => exact .refl _
  | next _ ih => exact (List.Perm.swap _ _ _).trans (ih.cons _)
theorem Cut.perm0 {P P' : Pt} {a : Addr} {m : M} (h : Cut P a m P') : ((a, m) :: P'.flatten).Perm P.flatten := by
  induction h with
  | here h =>
    rw [List.flatten_cons, List.flatten_cons]
    exact (h.perm.append_right _)
  | @next a m P r r' _ ih =>
    rw [List.flatten_cons, List.flatten_cons]
    exact (List.perm_middle.symm).trans (ih.append_left P)
theorem Cut.perm {P P' : Pt} {a : Addr} {m : M} (h : Cut P a m P') (F : List Cell) : ((a, m) :: tot P' F).Perm (tot P F) := h.perm0.append_right F
section
variable {X : Cx} {P : Program} {w : World} {K : PySem.W.Frag} {mg : Str → Option Value} {base : Heap} {sc : Scope} {N : List Str} {Vs : List Nat} {GN : List Str} {k : Nat}
variable {σd : Sd} {Gs : Pt} {Q : QD} {R : RX} {pos apos cpos : Pos} {e : Expr} {body : List Stmt}
/-! ### the pairs of a dict with tuple keys, one after another -/
def Itx (P : Program) (w : World) (p : Addr) (xs : List (List Key × Addr × Value)) (ep : Nat) (vs : List V) : It where
  go := fun i H => H p = some (.ext (Dx P w p xs ep)) ∧ i < xs.length
  yld := fun i H x H' => ∃ q k b u v, xs[i]? = some (k, b, u) ∧ vs[i]? = some v ∧ x = .ref q ∧ H q = none ∧ H' = L2.upd H q (.tup [.ref b, v])
  stop := fun i H => H p = some (.ext (Dx P w p xs ep)) ∧ xs.length ≤ i
theorem turn_itemsX {xs : List (List Key × Addr × Value)} {vs : List V} {ep : Nat} {elts : List Expr} {kk : Nat} {tpos : Pos} {p : Addr} (it : Addr) (hv : Vals vs (xs.map (·.2.2))) :
    Turn P w K (.Tuple elts kk tpos) (Itx P w p xs ep vs) [it] it (fun i h => ∃ ok ov, IsItemIter h it p i xs.length ep ok ov) where
  mem := by simp
  obj := fun i h st b hb => by
    have e : b = it := by simpa using hb
    subst e
    obtain ⟨ok, ov, e⟩ := st
    exact ⟨_, e, fun v z => nomatch z⟩
  keep := fun i h h' st k => let ⟨ok, ov, e⟩ := st; ⟨ok, ov, k it (by simp) _ e⟩
  item := by
    intro X hP hw hK hc i pins s σ H E I hf st hg
    subst hP hw hK
    obtain ⟨hd, hi⟩ := hg
    obtain ⟨⟨o, es, h1, h2, h3, h4⟩, _⟩ := (show ObjOk X.prog X.w H s.heap p (.ext (Dx X.prog X.w p xs ep)) from I.hok p _ hd)
    have hsz : es.size = xs.length := size_of_entries h4
    obtain ⟨ok, ov, he⟩ := st
    have hlt : it < s.heap.objs.size := Heap.lt_size he
    obtain ⟨⟨ky, b, u⟩, hx⟩ : ∃ z, xs[i]? = some z := ⟨xs[i], List.getElem?_eq_getElem hi⟩
    obtain ⟨v, hvv, rv⟩ : ∃ v, vs[i]? = some v ∧ RelV v u := by
      have hl := hv.length
      rw [List.length_map] at hl
      have hi2 : i < vs.length := by omega
      obtain ⟨u', hu', r⟩ := hv.get (List.getElem?_eq_getElem hi2)
      rw [List.getElem?_map, hx] at hu'
      cases hu'
      exact ⟨vs[i], List.getElem?_eq_getElem hi2, r⟩
    have hes : es[i]? = some (entryOfKey (tupleKind (mixKind X.prog X.w)) (ky, b, u)) := by rw [entry_at h4, hx]; rfl
    have hie : i < es.size := by omega
    have hei : es[i] = entryOfKey (tupleKind (mixKind X.prog X.w)) (ky, b, u) := by
      rw [Array.getElem?_eq_getElem hie] at hes
      exact Option.some.inj hes
    rw [← hsz] at he
    refine DT.nextI he ⟨o, h1, h2, h3⟩ hie fun h' ho hT hz hk => ?_
    rw [hei] at ho hT
    refine ⟨_, rfl, wpAny_letOwnedTupleGo_items (s := { s with heap := h' }) ho fun h'' he' sb => ?_⟩
    have hT2 : h''.get? s.heap.objs.size = some { cls := .type "tuple", data := .seq #[Value.ref b, u] } := (sb.2 _ (Nat.ne_of_gt hlt)).trans hT
    have new : ObjOk X.prog X.w (L2.upd H s.heap.objs.size (.tup [.ref b, v])) h'' s.heap.objs.size (.tup [.ref b, v]) :=
      ⟨by show 2 ≤ sizeLine; decide, [.ref b, u], .cons rfl (.cons rv .nil), ⟨_, hT2, rfl, _, rfl⟩⟩
    have I1 : Inv X pins σ (L2.upd H s.heap.objs.size (.tup [.ref b, v])) { s with heap := h'' } :=
      I.turnedNew (t' := s.toks) (ch := [it]) (fun b ob hb e => (sb.2 b (by simpa using hb)).trans (hk b ob (by simpa using hb) e)) hf (Nat.le_refl _) new
    refine ⟨.ref s.heap.objs.size, _, I1, rfl, ⟨_, ky, b, u, v, hx, hvv, rfl, I.hok.fresh (Nat.le_refl _), rfl⟩, ⟨Value.ref b, u, ?_⟩, fun b hb => ?_⟩
    · rw [← hsz]; exact he'
    · have e : b = it := by simpa using hb
      rw [e, upd_ne (Nat.ne_of_lt hlt)]
      exact (hf it (by simp)).1
  done := by
    intro X hP hw hK hc i pins s σ H E I hf st hg
    subst hP hw hK
    obtain ⟨hd, hi⟩ := hg
    obtain ⟨f0, f1, f2, f3, f4, f5⟩ := hf it (by simp)
    obtain ⟨⟨o, es, h1, h2, h3, h4⟩, _⟩ := (show ObjOk X.prog X.w H s.heap p (.ext (Dx X.prog X.w p xs ep)) from I.hok p _ hd)
    have hsz : es.size = xs.length := size_of_entries h4
    obtain ⟨ok, ov, he⟩ := st
    rw [← hsz] at he
    exact DT.endI (I.ok.hd hc) he ⟨o, h1, h2, h3⟩ (by omega) fun h' eb => ⟨rfl, I.turned (t' := s.toks) (fun b ob hb e => eb b ob hb e) f0 f1 f3 f4 f5⟩
  self := fun A i s Q E st h => let ⟨_, _, e⟩ := st; PySem.W.kcp_self e h
def iItemsX (X : Cx) (td : TE) : TI := fun σ H R => td σ H fun x H1 => ∃ p xs ep vs, x = .ref p ∧ H1 p = some (.ext (Dx X.prog X.w p xs ep)) ∧ (p == sysModules) = false ∧ Vals vs (xs.map (·.2.2)) ∧ R (Itx X.prog X.w p xs ep vs) H1
theorem pi_itemsX {td : TE} {elts : List Expr} {kk : Nat} {tpos : Pos} (he : PE X e td) (hbase : attributeBase e "items" X.env (eval e X.env) = eval e X.env := by rfl) (hline : (apos.endLine == cpos.line) = true := by rfl) :
    PI X (.Tuple elts kk tpos) (.Call (.Attribute e "items" apos) [] [] cpos) (iItemsX X td) := by
  refine ⟨fun pins s σ H R I h => ?_⟩
  refine wpAny_Call_method (T := "dict") (id := "dict.items") hbase rfl hline F.plainAttrs_dict F.slot_dict_items F.type_dict_items (thn (he.run pins s σ H _ I h) fun u s1 ⟨x, H1, I1, rx, p, xs, ep, vs, ex, hd, hs, hv, q⟩ => ?_)
  subst ex
  obtain rfl : u = Value.ref p := rx
  obtain ⟨⟨o, es, h1, h2, h3, h4⟩, _⟩ := (show ObjOk X.prog X.w H1 s1.heap p (.ext (Dx X.prog X.w p xs ep)) from I1.hok p _ hd)
  have hsz : es.size = xs.length := size_of_entries h4
  have hm : DT.Raw s1.heap p es ep := ⟨o, h1, h2, h3⟩
  refine ⟨⟨o, h1, h2.1⟩, fun b eb => by cases eb; exact ⟨o, h1, h2.2.1⟩, ?_⟩
  have I2 : Inv X pins σ H1 { s1 with heap := s1.heap.push { cls := .type "dict_items", data := .fields #[.ref p] } } := I1.kept (t' := s1.toks) fun b ob q => Heap.get?_push_of_some _ q
  have fin : wpAny (model X.prog X.w) X.A (pyIter (.ref s1.heap.objs.size)) (PIE X pins σ (.Tuple elts kk tpos) R) X.xe { s1 with heap := s1.heap.push { cls := .type "dict_items", data := .fields #[.ref p] } } := by
    refine DT.iterI (d := p) ⟨_, Heap.get?_push_size _ rfl, rfl, rfl⟩ (hm.push _) (pi_one (tk := s1.toks) I2 _ (turn_itemsX _ hv) ⟨.none, .none, ?_⟩ q)
    rw [← hsz]
    exact Heap.get?_push_size _ rfl
  show wpAny _ _ (callWith cpos (.builtin "dict.items") [.ref p] [] []) _ X.xe s1
  exact method_meetsIn F.slot_dict_items F.entry_dict_items rfl (PySem.evalArgs_none ⟨rfl, hm.typeIs, F.args_dict_items_1 _, _, DT.meetsItems (es := es) (ep := ep) hs, ⟨hm, fin⟩⟩)
/-- the values of the pairs, and what each pair is -/
theorem kx_vs {N' : List Addr} {H : Hp} : ∀ {kvs : List (List Key × D)} {xs : List (List Key × Addr × Value)}, KX K N' H kvs xs → ∃ vs, Vals vs (xs.map (·.2.2)) ∧
    ∀ (i : Nat) (ks : List Key) (d : D), kvs[i]? = some (ks, d) → ∃ b u v, xs[i]? = some (ks, b, u) ∧ vs[i]? = some v ∧ RD K N' H (.tup (ks.map keyD)) (.ref b) ∧ RD K N' H d v
  | [], _, h => by
    cases (show _ = [] from h)
    exact ⟨[], .nil, fun i ks d h => by simp at h⟩
  | (a, d) :: r, _, h => by
    obtain ⟨q, u, v, xs', rfl, h0, h1, h2, h3⟩ := h
    obtain ⟨vs, g1, g2⟩ := kx_vs h3
    refine ⟨v :: vs, .cons h1 g1, fun i ks d' hi => ?_⟩
    cases i with
    | zero =>
      cases hi
      exact ⟨q, u, v, rfl, rfl, h0, h2⟩
    | succ i => exact g2 i ks d' hi
/-- for k, v in p.items(): the dict stays as it is, its cell comes back behind the loop -/
theorem fi_ {elts : List Expr} {kk : Nat} {tpos : Pos} {nx bk ct : Sd → Pt → Prop} {rt : QD} {ex : RX} (B : Bd X P w K mg base sc N Vs GN k)
    (h : EvD X e σd Gs (fun x G1 => ∃ (p : Addr) (kvs : List (List Key × D)) (G2 : Pt), x = .ref p ∧ Cut G1 p (.dT P w p kvs) G2 ∧ ∃ J : Nat → Sd → Pt → Prop, J 0 σd G2 ∧
      (∀ (i : Nat) (ks : List Key) (d : D) (σ' : Sd) (G' : Pt), kvs[i]? = some (ks, d) → J i σ' G' → TgD X (.Tuple elts kk tpos) (.tup [.tup (ks.map keyD), d]) σ' G' (fun σ2 G3 => SsD X body σ2 G3 ⟨J (i + 1), fun _ _ => False, fun _ _ => False, J (i + 1), R0⟩) R0) ∧
      (∀ σ' G', J kvs.length σ' G' → nx σ' ([(p, .dT P w p kvs)] :: G'))) ex)
    (hbase : attributeBase e "items" X.env (eval e X.env) = eval e X.env := by rfl) (hline : (apos.endLine == cpos.line) = true := by rfl)
    (hs : ∀ x, foldedSetIterable (.Call (.Attribute e "items" apos) [] [] cpos) X.env x = pure x := by intro _; rfl) :
    StD X (.For (.Tuple elts kk tpos) (.Call (.Attribute e "items" apos) [] [] cpos) body [] pos) σd Gs ⟨nx, rt, bk, ct, ex⟩ := by
  intro pn xe E F σ H wh hE ob sl
  have eP := B.eP
  have ew := B.ew
  refine (ps_for (X := X.tr pn xe) wh.po B.calm (pi_itemsX (X := X.tr pn xe) PE.self hbase hline) PG.self PSs.self hs).get ?_
  refine h.go wh hE Keep.refl ob sl fun v H1 x G1 ob1 k1 _ sl1 rx ⟨p, kvs, G2, ex1, cut, J, j0, turn, done⟩ => ?_
  subst ex1
  cases (show v = .ref p from rx)
  have obc := ob1.perm (cut.perm F)
  obtain ⟨o, e1, xs, ep, rfl, z, hd, hn, hk⟩ := obc.at_ p _ List.mem_cons_self
  have np : p ∉ dm (tot G2 F) := (List.nodup_cons.mp obc.nd).1
  have ob2 : Ob X.K (tot G2 F) H1 := obc.sub (List.sublist_cons_self ..)
  have hsub : ∀ a, a ∉ dm (tot G1 F) → a ∉ dm (tot G2 F) := fun a ha hb => ha ((cut.perm F).map (·.1) |>.subset (List.mem_cons_of_mem _ hb))
  have hpm : p ∈ dm (tot G1 F) := ((cut.perm F).map (·.1)).subset List.mem_cons_self
  have k12 : Keep (dm (tot G1 F)) H1 (dm (tot G2 F)) H1 := Keep.self hsub
  have hsub2 : ∀ a, a ∉ dm ((p, M.dT P w p kvs) :: tot G2 F) → a ∉ dm (tot G2 F) := fun a ha hb => ha (List.mem_cons_of_mem _ hb)
  have hk2 : KX X.K (dm (tot G2 F)) H1 kvs xs := hk.perm hsub2
  obtain ⟨vs, hv, hvs⟩ := kx_vs hk2
  have hxl := kx_len hk
  refine ⟨p, xs, ep, vs, rfl, by rw [show (X.tr pn xe).prog = P from eP, show (X.tr pn xe).w = w from ew]; exact e1, hd, hv, ?_⟩
  rw [show (X.tr pn xe).prog = P from eP, show (X.tr pn xe).w = w from ew]
  refine ⟨fun i m σ' H' => m = xs.length - i ∧ i ≤ xs.length ∧ ∃ σd' G', Ob X.K (tot G' F) H' ∧ Keep (dm (tot G2 F)) H1 (dm (tot G' F)) H' ∧ Sl X.K (dm (tot G' F)) H' σd' σ' ∧ J i σd' G', ⟨_, rfl, Nat.zero_le _, σd, G2, ob2, Keep.refl, sl1.keep k12, j0⟩, ?_⟩
  rintro i m σ' H' ⟨rfl, hi, σd', G', ob', k', sl', hI⟩
  obtain ⟨hp', np'⟩ := k' p _ e1 np
  by_cases hlt : i < xs.length
  · obtain ⟨⟨ks, d⟩, hkd⟩ : ∃ zz, kvs[i]? = some zz := ⟨kvs[i]'(by omega), List.getElem?_eq_getElem (by omega)⟩
    obtain ⟨b, u, v, hx, hvv, rk, rd⟩ := hvs i ks d hkd
    refine .inr ⟨⟨hp', hlt⟩, fun σ2 H2 => ∃ σd2 G2', Ob X.K (tot G2' F) H2 ∧ Keep (dm (tot G2 F)) H1 (dm (tot G2' F)) H2 ∧ Sl X.K (dm (tot G2' F)) H2 σd2 σ2 ∧ J (i + 1) σd2 G2', fun σ2 H2 ⟨σd2, G2', a1, a2, a3, a4⟩ => ⟨_, by omega, rfl, hlt, σd2, G2', a1, a2, a3, a4⟩, fun x Hx y => ?_⟩
    obtain ⟨q, ks', b', u', v', hx', hv', rfl, hq, rfl⟩ := y
    rw [hx] at hx'
    cases hx'
    rw [hvv] at hv'
    cases hv'
    have kq := Keep.newF (N := dm (tot G' F)) (o := .tup [.ref b, v]) hq
    have obx := ob'.newF (o := .tup [.ref b, v]) hq
    have kk : Keep (dm (tot Gs F)) H (dm (tot G' F)) (L2.upd H' q (.tup [.ref b, v])) := ((k1.trans k12).trans k').trans kq
    have rx : RD X.K (dm (tot G' F)) (L2.upd H' q (.tup [.ref b, v])) (.tup [.tup (ks.map keyD), d]) (.ref q) :=
      ⟨q, _, rfl, .inl ⟨ob'.mem_none hq, .inl upd_same⟩, _, _, rfl, RD.keep (k'.trans kq) _ _ rk, _, _, rfl, RD.keep (k'.trans kq) _ _ rd, rfl⟩
    have no : ∀ {Gx : Pt} {Hx : Hp}, ∀ c od H3, Wx X.K F Gx Hx R0 c od H3 → E c od H3 := fun c od H3 wx => by
      obtain ⟨_, _, _, _, _, _, _, z⟩ := wx
      exact z.elim
    refine (turn i ks d σd' G' hkd hI).go (Gs0 := Gs) (H0 := H) wh no kk obx (sl'.keep kq) rx fun σ2 H2 σd2 G2' ob2' k2 k2x sl2 hb => ?_
    refine (hb pn xe E F σ2 H2 wh no ob2' sl2).imp ⟨fun σ3 H3 ⟨σd3, G3, ob3, k3, sl3, q⟩ => ⟨σd3, G3, ob3, ((k'.trans kq).trans k2x).trans k3, sl3, q⟩, fun v H3 p => ?_, fun σ3 H3 p => ?_, fun σ3 H3 ⟨σd3, G3, ob3, k3, sl3, q⟩ => ⟨σd3, G3, ob3, ((k'.trans kq).trans k2x).trans k3, sl3, q⟩⟩
    · obtain ⟨_, _, _, _, _, z⟩ := p
      exact z.elim
    · obtain ⟨_, _, _, _, _, z⟩ := p
      exact z.elim
  · have e : i = kvs.length := by omega
    subst e
    have q := done _ _ hI
    have rc : Rc X.K (dm (tot G' F)) H' (.dT P w p kvs) (.ext (Dx P w p xs ep)) := ⟨xs, ep, rfl, z, hd, hn, hk2.keep k'⟩
    refine .inl ⟨⟨hp', by omega⟩, σd', [(p, .dT P w p kvs)] :: G', ob'.thaw np' hp' rc, fun c oc hc nc => ?_, sl'.thaw hp', q⟩
    obtain ⟨h1, n1⟩ := k1 c oc hc nc
    obtain ⟨h2, n2⟩ := k' c oc h1 (hsub c n1)
    refine ⟨h2, fun z => ?_⟩
    rcases List.mem_cons.mp (show c ∈ p :: dm (tot G' F) from z) with rfl | z
    · exact n1 hpm
    · exact n2 z
end
end Dl
namespace Dl
open PySem PySem.Spec PyProof.Rows L2
section
variable {X : Cx} {P : Program} {w : World} {K : PySem.W.Frag} {mg : Str → Option Value} {base : Heap} {sc : Scope} {N : List Str} {Vs : List Nat} {GN : List Str} {k : Nat}
variable {σd : Sd} {Gs : Pt} {Q : QD} {R : RX} {pos : Pos} {e : Expr} {sts : List Stmt} {D : DE}
/-! ### dicts that are read, owned or not -/
/-- x reads as a dict -/
def DcD (K : PySem.W.Frag) (Gs : Pt) (x : Dl.D) (kvs : List (Key × Dl.D)) : Prop := ∀ F H v, Ob K (tot Gs F) H → RD K (dm (tot Gs F)) H x v → ∃ a kv, v = .ref a ∧ Rd H a (.dK kv) ∧ KD K (dm (tot Gs F)) H kvs kv
theorem dc_val {kvs : List (Key × Dl.D)} : DcD K Gs (.dct kvs) kvs := fun F H v ob r => by
  obtain ⟨a, o, kv, e, _, t, rs⟩ := r
  exact ⟨a, kv, e, .inr ⟨o, t⟩, rdk_kd.mp rs⟩
theorem dc_own {p : Addr} {kvs : List (Key × Dl.D)} (h : Has Gs p (.dK kvs)) : DcD K Gs (.ref p) kvs := fun F H v ob r => by
  obtain ⟨o, e, kv, rfl, rs⟩ := ob.get h
  exact ⟨p, kv, r, .inl e, rs⟩
theorem ty_dc {x : Dl.D} {kvs : List (Key × Dl.D)} (h : DcD K Gs x kvs) : TyD K "dict" x Gs := fun F H vx ob r => by
  obtain ⟨a, kv, rfl, e, _⟩ := h F H vx ob r
  exact .inr (.inr ⟨rfl, a, kv, rfl, e⟩)
theorem dget_rd {H : Hp} {a : Addr} {kvs : List (Key × V)} {j : Key} (e : Rd H a (.dK kvs)) : DGet H a (kV j) (valV kvs j) := .inl ⟨kvs, j, e, rfl, rfl⟩
theorem m_get2K {x : Dl.D} {kvs : List (Key × Dl.D)} {j : Key} {d0 : Dl.D} (B : Bd X P w K mg base sc N Vs GN k) (h : DcD X.K Gs x kvs) (q : Q ((valD kvs j).getD d0) Gs) : MetD X "dict.get" x [keyD j, d0] Gs Q := by
  refine ⟨rGet2, fun pn xe => mt_dget2 (X := X.tr pn xe) (hu1 (X := X) B), fun F H vx vs ob rx rs => ?_⟩
  obtain ⟨v1, _, rfl, r1, v2, _, rfl, r2, rfl⟩ := rs
  cases rd_key r1
  obtain ⟨p, kv, rfl, e, r⟩ := h F H vx ob rx
  refine ⟨p, kV j, v2, valV kv j, rfl, rfl, dget_rd e, ?_⟩
  rcases kd_val j r with ⟨g1, g2⟩ | ⟨d, v, g1, g2, rv⟩
  · rw [g2]
    rw [g1] at q
    exact Post.of ob Keep.refl r2 q
  · rw [g2]
    rw [g1] at q
    exact Post.of ob Keep.refl rv q
theorem m_get1K {x : Dl.D} {kvs : List (Key × Dl.D)} {j : Key} (B : Bd X P w K mg base sc N Vs GN k) (h : DcD X.K Gs x kvs) (q : Q ((valD kvs j).getD .non) Gs) : MetD X "dict.get" x [keyD j] Gs Q := by
  refine ⟨rGet1, fun pn xe => mt_dget1 (X := X.tr pn xe) (hu1 (X := X) B), fun F H vx vs ob rx rs => ?_⟩
  obtain ⟨v1, _, rfl, r1, rfl⟩ := rs
  cases rd_key r1
  obtain ⟨p, kv, rfl, e, r⟩ := h F H vx ob rx
  refine ⟨p, kV j, valV kv j, rfl, rfl, dget_rd e, ?_⟩
  rcases kd_val j r with ⟨g1, g2⟩ | ⟨d, v, g1, g2, rv⟩
  · rw [g2]
    rw [g1] at q
    exact Post.of (d := .non) ob Keep.refl rfl q
  · rw [g2]
    rw [g1] at q
    exact Post.of ob Keep.refl rv q
/-- y in x, y not in x -/
theorem opr_in (hu : X.A.units + 1 < cLine) : OpR X (compareOp .In) (fun y x H Q => ∃ a o, x = .ref a ∧ DGet H a y o ∧ Q (.bl o.isSome) H) := by
  intro pins s σ H y x v u Q I ry rx h
  obtain ⟨a, o, rfl, g, q⟩ := h
  cases rx
  exact d_in hu I g ry fun s' I' => ⟨.bl o.isSome, H, I', rfl, q⟩
theorem opr_nin (hu : X.A.units + 1 < cLine) : OpR X (compareOp .NotIn) (fun y x H Q => ∃ a o, x = .ref a ∧ DGet H a y o ∧ Q (.bl (!o.isSome)) H) := by
  intro pins s σ H y x v u Q I ry rx h
  obtain ⟨a, o, rfl, g, q⟩ := h
  cases rx
  exact d_notIn hu I g ry fun s' I' => ⟨.bl (!o.isSome), H, I', rfl, q⟩
theorem kd_some {κ : Type} [DecidableEq κ] {N' : List Addr} {H : Hp} (j : κ) {kvs : List (κ × Dl.D)} {kv : List (κ × V)} (r : KD K N' H kvs kv) : (valV kv j).isSome = (valD kvs j).isSome := by
  rcases kd_val j r with ⟨g1, g2⟩ | ⟨d, v, g1, g2, rv⟩ <;> rw [g1, g2] <;> rfl
theorem c_inK {x : Dl.D} {kvs : List (Key × Dl.D)} {j : Key} (B : Bd X P w K mg base sc N Vs GN k) (h : DcD X.K Gs x kvs) (q : Q (.bl (valD kvs j).isSome) Gs) : CmpD X .In (keyD j) x Gs Q := by
  refine ⟨_, fun pn xe => opr_in (X := X.tr pn xe) (hu1 (X := X) B), fun F H vy vx ob ry rx => ?_⟩
  cases rd_key ry
  obtain ⟨p, kv, rfl, e, r⟩ := h F H vx ob rx
  refine ⟨p, valV kv j, rfl, dget_rd e, ?_⟩
  rw [kd_some j r]
  exact Post.of (d := .bl (valD kvs j).isSome) ob Keep.refl rfl q
theorem c_ninK {x : Dl.D} {kvs : List (Key × Dl.D)} {j : Key} (B : Bd X P w K mg base sc N Vs GN k) (h : DcD X.K Gs x kvs) (q : Q (.bl (!(valD kvs j).isSome)) Gs) : CmpD X .NotIn (keyD j) x Gs Q := by
  refine ⟨_, fun pn xe => opr_nin (X := X.tr pn xe) (hu1 (X := X) B), fun F H vy vx ob ry rx => ?_⟩
  cases rd_key ry
  obtain ⟨p, kv, rfl, e, r⟩ := h F H vx ob rx
  refine ⟨p, valV kv j, rfl, dget_rd e, ?_⟩
  rw [kd_some j r]
  exact Post.of (d := .bl (!(valD kvs j).isSome)) ob Keep.refl rfl q
/-- x[y] -/
def rIxK : R2 := fun x y H Q => ∃ a v, x = .ref a ∧ DGet H a y (some v) ∧ Q v H
theorem ixr_K (hu : X.A.units + 1 < cLine) : IxR X rIxK := by
  intro value slice pins s σ H x y v u Q I rx ry h hs
  obtain ⟨a, r, rfl, g, q⟩ := h
  cases rx
  exact tail_any (dict_typeIs I g) PySem.F.slot_dict_getitem.lookup (d_getItem hu I g ry fun w' s' I' rw' => ⟨r, H, I', rw', q⟩) hs
theorem ix_K {x : Dl.D} {kvs : List (Key × Dl.D)} {j : Key} {d : Dl.D} (B : Bd X P w K mg base sc N Vs GN k) (h : DcD X.K Gs x kvs) (hv : valD kvs j = some d) (q : Q d Gs) : IxD X x (keyD j) Gs Q := by
  refine ⟨rIxK, fun pn xe => ixr_K (X := X.tr pn xe) (hu1 (X := X) B), fun F H vx vy ob rx ry => ?_⟩
  cases rd_key ry
  obtain ⟨p, kv, rfl, e, r⟩ := h F H vx ob rx
  rcases kd_val j r with ⟨g1, g2⟩ | ⟨d', v, g1, g2, rv⟩
  · rw [g1] at hv; cases hv
  · rw [g1] at hv
    cases hv
    exact ⟨p, v, rfl, by rw [← g2]; exact dget_rd e, Post.of ob Keep.refl rv q⟩
/-- len(x) -/
def rLenK : List V → Hp → VK → Prop := fun xs H Q => ∃ a kvs, xs = [.ref a] ∧ Rd H a (.dK kvs) ∧ Q (.int ((kvs.length : Nat) : Int)) H
theorem cr_lenK : CallR X (.builtin "len") rLenK := by
  intro pins s σ H xs us Q I r h
  obtain ⟨a, kvs, rfl, e, q⟩ := h
  cases r with
  | cons r1 rr =>
    cases rr
    cases r1
    exact d_len I e fun t s' I' => ⟨.int ((kvs.length : Nat) : Int), H, I', ⟨t, rfl⟩, q⟩
theorem k_lenK {x : Dl.D} {kvs : List (Key × Dl.D)} (h : DcD X.K Gs x kvs) (q : Q (.int ((kvs.length : Nat) : Int)) Gs) : CalD X (.builtin "len") [x] Gs Q := ⟨rLenK, fun pn xe => cr_lenK, fun F H vs ob r => by
  obtain ⟨v, _, rfl, rv, rfl⟩ := r
  obtain ⟨p, kv, rfl, e, rr⟩ := h F H v ob rv
  refine ⟨p, kv, rfl, e, ?_⟩
  rw [kd_lenV rr]
  exact Post.of (d := .int ((kvs.length : Nat) : Int)) ob Keep.refl rfl q⟩
/-- dict(x): a copy that will change -/
def rDictK : List V → Hp → VK → Prop := fun xs H Q => ∃ a kvs, xs = [.ref a] ∧ Rd H a (.dK kvs) ∧ ∀ p, H p = none → Q (.ref p) (L2.upd H p (.dK kvs))
theorem cr_dictK : CallR X (.type "dict") rDictK := by
  intro pins s σ H xs us Q I r h
  obtain ⟨a, kvs, rfl, e, q⟩ := h
  cases r with
  | cons r1 rr =>
    cases rr
    cases r1
    exact d_copyOf I e fun p s' hp I' => ⟨.ref p, _, I', rfl, q p hp⟩
theorem k_dictO {x : Dl.D} {kvs : List (Key × Dl.D)} (h : DcD X.K Gs x kvs) (q : ∀ p, Q (.ref p) ([(p, .dK kvs)] :: Gs)) : CalD X (.type "dict") [x] Gs Q := ⟨rDictK, fun pn xe => cr_dictK, fun F H vs ob r => by
  obtain ⟨v, _, rfl, rv, rfl⟩ := r
  obtain ⟨a, kv, rfl, e, rr⟩ := h F H v ob rv
  refine ⟨a, kv, rfl, e, fun p hp => ?_⟩
  exact Post.of (d := .ref p) (ob.new (m := .dK kvs) hp ⟨kv, rfl, rr⟩) (Keep.newO hp) rfl (q p)⟩
/-- list(x): its keys -/
def rListDR : List V → Hp → VK → Prop := fun xs H Q => ∃ p kvs, xs = [.ref p] ∧ Rd H p (.dK kvs) ∧ ∀ q, H q = none → Q (.ref q) (L2.upd H q (.lst (kvs.map fun kv => kV kv.1)))
theorem call_list_dKR {X : Cx} (hc : X.calm = true) : CallR X (.type "list") rListDR := by
  intro pins s σ H xs us Q I r h
  obtain ⟨p, kvs, e, hk, q⟩ := h
  subst e
  obtain ⟨u, eu, rx⟩ := vals1 r
  subst eu
  obtain rfl : u = Value.ref p := rx
  obtain ⟨z, lo, vs, rk, hd⟩ := dk_rd I.hok hk
  obtain ⟨ep, hat⟩ := hd.dictAt
  have hl : kvs.length = vs.length := Paired.length rk
  refine PySem.W.kdl_call (PySem.W.kdl_dict (knd := mixKind X.prog X.w) (kvs := vs) (ep := ep) lo) (I.ok.hd hc) hat (by rw [← hl]; exact z) fun h' tk acc' c' hkeep hS hacc => ?_
  refine ⟨.ref s.heap.objs.size, L2.upd H s.heap.objs.size (.lst (kvs.map fun kv => kV kv.1)), I.laid hkeep (Nat.le_refl _) (show ObjOk X.prog X.w _ _ _ (.lst (kvs.map fun kv => kV kv.1)) from ⟨?_, acc'.toList, c', ?_, ?_⟩), rfl, q _ (I.hok.fresh (Nat.le_refl _))⟩
  · rw [List.length_map]; exact z
  · have el : acc'.toList.length = acc'.size := by simp
    refine vals_of_at (by rw [List.length_map, el, hacc.1, hl]) fun j x w h1 h2 => ?_
    obtain ⟨k, y, hky, hi⟩ := hacc.2 j w (by rw [← Array.getElem?_toList]; exact h2)
    have e1 : (kvs.map (·.1))[j]? = some k := by
      rw [KV.keys rk, List.getElem?_map, hky] <;> rfl
    have e2 : (kvs.map fun kv => kV kv.1)[j]? = some (kV k) := by
      have e3 : (kvs.map fun kv => kV kv.1) = (kvs.map (·.1)).map kV := by rw [List.map_map] <;> rfl
      rw [e3, List.getElem?_map, e1] <;> rfl
    rw [e2] at h1
    cases h1
    exact keyIs_rel hi
  · rw [Array.toArray_toList]; exact hS
theorem k_listK {x : Dl.D} {kvs : List (Key × Dl.D)} (B : Bd X P w K mg base sc N Vs GN k) (h : DcD X.K Gs x kvs) (q : Q (.lst (kvs.map fun x => keyD x.1)) Gs) : CalD X (.type "list") [x] Gs Q := ⟨rListDR, fun pn xe => call_list_dKR (X := X.tr pn xe) B.calm, fun F H vs ob r => by
  obtain ⟨v, _, rfl, rv, rfl⟩ := r
  obtain ⟨p, kv, rfl, e, rr⟩ := h F H v ob rv
  refine ⟨p, kv, rfl, e, fun l hl => ?_⟩
  have kp := Keep.newF (N := dm (tot Gs F)) (o := .lst (kv.map fun x => kV x.1)) hl
  exact Post.of (d := .lst (kvs.map fun x => keyD x.1)) (ob.newF hl) kp ⟨l, _, rfl, ob.mem_none hl, upd_same, kd_keys rr⟩ q⟩
theorem kd_keysEq {N' : List Addr} {H : Hp} : ∀ {kvs : List (Key × Dl.D)} {kv : List (Key × V)}, KD K N' H kvs kv → kv.map (·.1) = kvs.map (·.1)
  | [], kv, h => by
    cases (show kv = [] from h)
    rfl
  | (a, d) :: r, kv, h => by
    obtain ⟨v, r', rfl, _, rr⟩ := h
    rw [List.map_cons, List.map_cons, kd_keysEq rr]
theorem rds_ints {N' : List Addr} {H : Hp} : ∀ ys : List Int, RDs K N' H (ys.map .int) (ys.map .int)
  | [] => rfl
  | y :: ys => ⟨_, _, rfl, rfl, rds_ints ys⟩
/-- sorted(x): the keys, all texts -/
theorem k_sortedKS {x : Dl.D} {kvs : List (Key × Dl.D)} {ks : List Str} (B : Bd X P w K mg base sc N Vs GN k) (h : DcD X.K Gs x kvs) (hk : kvs.map (·.1) = ks.map Sum.inr) (hl : ks.length < 64) (q : ∀ ys : List Str, ys.Perm ks → sortedS ys = true → Q (.lst (ys.map .str)) Gs) : CalD X (.builtin "sorted") [x] Gs Q := ⟨_, fun pn xe => call_sortedD (X := X.tr pn xe) B.calm, fun F H vs ob r => by
  obtain ⟨v, _, rfl, rv, rfl⟩ := r
  obtain ⟨p, kv, rfl, e, rr⟩ := h F H v ob rv
  refine ⟨p, kv, ks, rfl, e, by rw [kd_keysEq rr, hk], hl, fun ys l hp hs hl => ?_⟩
  have kp := Keep.newF (N := dm (tot Gs F)) (o := .lst (ys.map V.str)) hl
  exact Post.of (d := .lst (ys.map .str)) (ob.newF hl) kp ⟨l, _, rfl, ob.mem_none hl, upd_same, rds_strs ys⟩ (q ys hp hs)⟩
theorem k_sortedKI {x : Dl.D} {kvs : List (Key × Dl.D)} {ks : List Int} (B : Bd X P w K mg base sc N Vs GN k) (h : DcD X.K Gs x kvs) (hk : kvs.map (·.1) = ks.map Sum.inl) (hl : ks.length < 64) (q : ∀ ys : List Int, ys.Perm ks → ys.Pairwise (· ≤ ·) → Q (.lst (ys.map .int)) Gs) : CalD X (.builtin "sorted") [x] Gs Q := ⟨_, fun pn xe => call_sortedDI (X := X.tr pn xe) B.calm, fun F H vs ob r => by
  obtain ⟨v, _, rfl, rv, rfl⟩ := r
  obtain ⟨p, kv, rfl, e, rr⟩ := h F H v ob rv
  refine ⟨p, kv, ks, rfl, e, by rw [kd_keysEq rr, hk], hl, fun ys l hp hs hl => ?_⟩
  have kp := Keep.newF (N := dm (tot Gs F)) (o := .lst (ys.map V.int)) hl
  exact Post.of (d := .lst (ys.map .int)) (ob.newF hl) kp ⟨l, _, rfl, ob.mem_none hl, upd_same, rds_ints ys⟩ (q ys hp hs)⟩
/-! ### a dict that changes no more -/
theorem frz_cell {F : List Cell} {H : Hp} {p : Addr} {m : M} {G G' : Pt} (ob : Ob K (tot G F) H) (t : Take G [(p, m)] G') : Ob K (tot G' F) H ∧ (∀ x, x ∉ dm (tot G F) → x ∉ dm (tot G' F)) ∧ p ∉ dm (tot G' F) := by
  have pr : (tot ([[(p, m)]] ++ G') F).Perm (tot G F) := by
    unfold tot
    rw [List.singleton_append, List.flatten_cons]
    exact t.perm.append_right F
  have ob' := ob.perm pr
  have su : (tot G' F).Sublist (tot ([[(p, m)]] ++ G') F) := by
    show (G'.flatten ++ F).Sublist ((p, m) :: (G'.flatten ++ F))
    exact List.sublist_cons_self _ _
  refine ⟨ob'.sub su, fun x hx hx' => hx ((pr.map (fun c : Cell => c.1)).mem_iff.mp ((su.map (fun c : Cell => c.1)).subset hx')), ?_⟩
  have nd : (dm (tot ([[(p, m)]] ++ G') F)).Nodup := ob'.nd
  have nd' : (p :: dm (tot G' F)).Nodup := nd
  exact (List.nodup_cons.mp nd').1
/-- .. and it is locked for good: it may be walked -/
theorem lock_cell {F : List Cell} {H : Hp} {p : Addr} {m : M} {G G' : Pt} (u' : HO) (ob : Ob K (tot G F) H) (t : Take G [(p, m)] G') : Ob K (tot G' F) (L2.upd H p u') ∧ Keep (dm (tot G F)) H (dm (tot G' F)) (L2.upd H p u') ∧ p ∉ dm (tot G' F) := by
  have pr : (tot ([[(p, m)]] ++ G') F).Perm (tot G F) := by
    unfold tot
    rw [List.singleton_append, List.flatten_cons]
    exact t.perm.append_right F
  have su : (tot G' F).Sublist (tot ([[(p, m)]] ++ G') F) := by
    show (G'.flatten ++ F).Sublist ((p, m) :: (G'.flatten ++ F))
    exact List.sublist_cons_self _ _
  have mem : ∀ c, c ∈ tot G' F → c ∈ tot G F := fun c hc => pr.mem_iff.mp (su.subset hc)
  obtain ⟨ob2, sub, pn⟩ := frz_cell ob t
  have pin : p ∈ dm (tot G F) := (pr.map (fun c : Cell => c.1)).mem_iff.mp (List.mem_cons_self (a := p))
  have kp : Keep (dm (tot G F)) H (dm (tot G' F)) (L2.upd H p u') := fun b o e n => ⟨by rw [upd_ne (show b ≠ p from fun z => n (by rw [z]; exact pin))]; exact e, sub b n⟩
  refine ⟨⟨ob2.nd, fun a x hx => ?_⟩, kp, pn⟩
  obtain ⟨o, e1, e2⟩ := ob.at_ a x (mem _ hx)
  have hne : a ≠ p := fun z => pn (by rw [← z]; exact List.mem_map.mpr ⟨_, hx, rfl⟩)
  exact ⟨o, by rw [upd_ne hne]; exact e1, e2.keep kp⟩
theorem sem_lock {X : Cx} {e : Expr} {σ : L2.St} {H : Hp} {Q Q' : VK} (h : sem X e σ H Q) (k : ∀ v H', Q v H' → ∃ p u, H' p = some u ∧ Mut (some u) ∧ ∀ od, Q' v (L2.upd H' p (.frz od u))) : sem X e σ H Q' := fun pins s I =>
  thn (h pins s I) fun u s' ⟨v, H', I', r, q⟩ => by
    obtain ⟨p, u0, hp, mu, q'⟩ := k v H' q
    obtain ⟨od, I2⟩ := I'.lock hp mu
    exact ⟨v, _, I2, r, q' od⟩
theorem e_frzK (h : EvD X e σd Gs (fun d G => ∃ p kvs G', d = .ref p ∧ Take G [(p, .dK kvs)] G' ∧ Q (.dct kvs) G') R) : EvD X e σd Gs Q R := by
  intro pn xe E F σ H wh hE ob sl
  refine sem_lock (h pn xe E F σ H wh hE ob sl) fun v H' ⟨d, G1, ob1, k1, r1, p, kvs, G', ed, t, q⟩ => ?_
  subst ed
  cases (show v = .ref p from r1)
  obtain ⟨o, e, kv, rfl, r⟩ := ob1.get (t.has .here)
  refine ⟨p, _, e, trivial, fun od => ?_⟩
  obtain ⟨ob2, kk, pn'⟩ := lock_cell (.frz od (.dK kv)) ob1 t
  exact ⟨.dct kvs, G', ob2, k1.trans kk, ⟨p, od, kv, rfl, pn', upd_same, rdk_kd.mpr (KD.keep kk _ _ r)⟩, q⟩
theorem ss_frzK {p : Addr} {kvs : List (Key × Dl.D)} {i : Nat} {Gs' : Pt} (hs : σd[i]? = some (some (.ref p))) (t : Take Gs [(p, .dK kvs)] Gs') (h : SsD X sts (σd.set i (some (.dct kvs))) Gs' D) : SsD X sts σd Gs D := by
  intro pn xe E F σ H wh hE ob sl pins s I
  obtain ⟨o, e, kv, rfl, r⟩ := ob.get (t.has .here)
  obtain ⟨od, I2⟩ := Inv.lock I e trivial
  obtain ⟨ob2, kk, pn'⟩ := lock_cell (.frz od (.dK kv)) ob t
  obtain ⟨v, ev, rv⟩ := sl.2 i _ hs
  cases (show v = .ref p from rv)
  have sl2 := (sl.keep kk).set (d := .dct kvs) (v := .ref p) ⟨p, od, kv, rfl, pn', upd_same, rdk_kd.mpr (KD.keep kk _ _ r)⟩ i
  have es : σ.set i (some (.ref p)) = σ := by
    apply List.ext_getElem?
    intro j
    by_cases hj : i = j
    · subst hj
      rw [List.getElem?_set_self (List.getElem?_eq_some_iff.mp ev).1, ev]
    · rw [List.getElem?_set_ne hj]
  rw [es] at sl2
  exact SsD.go h wh hE kk ob2 sl2 pins s I2
theorem sfrzK_ {p : Addr} {kvs : List (Key × Dl.D)} {i : Nat} {Gs' : Pt} {σ' : Sd} (hs : At σd i (some (.ref p))) (t : Take Gs [(p, .dK kvs)] Gs') (hσ : SetAt σd i (some (.dct kvs)) σ') (h : SsD X sts σ' Gs' D) : SsD X sts σd Gs D :=
  ss_frzK hs.get t (by rw [hσ.eq]; exact h)
end
end Dl
namespace Dl
open PySem PySem.Spec PyProof.Rows L2
section
variable {X : Cx} {P : Program} {w : World} {K : PySem.W.Frag} {mg : Str → Option Value} {base : Heap} {sc : Scope} {N : List Str} {Vs : List Nat} {GN : List Str} {k : Nat}
variable {σd : Sd} {Gs : Pt} {Q : QD} {R : RX} {pos : Pos}
theorem RDs.dropLast {N' : List Addr} {H : Hp} {ds : List D} {vs : List V} (r : RDs K N' H ds vs) : RDs K N' H ds.dropLast vs.dropLast := by
  rw [List.dropLast_eq_take, List.dropLast_eq_take, r.length]
  exact r.take _
/-- p.pop(): the last item -/
theorem m_pop0 {p : Addr} {ds : List D} {d : D} {Gs' : Pt} (u : Upd Gs p (.lst ds) (.lst ds.dropLast) Gs') (h : ds[ds.length - 1]? = some d) (q : Q d Gs') : MetD X "list.pop" (.ref p) [] Gs Q := ⟨rPop, fun pn xe => mt_pop, fun F H vx vs ob rx rs => by
  cases (show vx = .ref p from rx)
  cases (show vs = [] from rs)
  obtain ⟨o, e, vs, rfl, r⟩ := ob.get u.has
  obtain ⟨v, hv, rv⟩ := r.get h
  refine ⟨p, vs, v, rfl, rfl, e, by rw [r.length]; exact hv, ?_⟩
  exact Post.of (ob.upd (m' := .lst ds.dropLast) u ⟨_, rfl, r.dropLast⟩) (Keep.updD u) (RD.keep (Keep.updD u) _ _ rv) q⟩
/-- p.extend(x) -/
theorem m_ext {p : Addr} {ds es : List D} {x : D} {Gs' : Pt} (u : Upd Gs p (.lst ds) (.lst (ds ++ es)) Gs') (hx : LsD X.K Gs x es) (hz : ds.length + es.length ≤ sizeLine) (q : Q .non Gs') : MetD X "list.extend" (.ref p) [x] Gs Q := ⟨rExtend, fun pn xe => mt_extend, fun F H vx vs ob rx rs => by
  cases (show vx = .ref p from rx)
  obtain ⟨v1, _, rfl, r1, rfl⟩ := rs
  obtain ⟨o, e, vs, rfl, r⟩ := ob.get u.has
  obtain ⟨b, ws, rfl, eb, rw_⟩ := hx F H v1 ob r1
  refine ⟨p, b, vs, ws, rfl, rfl, e, eb, by rw [r.length, rw_.length]; exact hz, ?_⟩
  exact Post.of (d := .non) (ob.upd (m' := .lst (ds ++ es)) u ⟨_, rfl, r.append rw_⟩) (Keep.updD u) rfl q⟩
/-- list(t) of a tuple: one that will change, one that stays -/
theorem k_listTO {ds : List D} (q : ∀ p, Q (.ref p) ([(p, .lst ds)] :: Gs)) : CalD X (.type "list") [.tup ds] Gs Q := ⟨rListOf X.K, fun pn xe => call_list_of, fun F H vs ob r => by
  obtain ⟨v, _, rfl, rv, rfl⟩ := r
  obtain ⟨a, ys, rfl, ha, rs⟩ := tup_sq rv
  refine ⟨a, ys, rfl, .inr ha, fun l hl => ?_⟩
  exact Post.of (d := .ref l) (ob.new (m := .lst ds) hl ⟨ys, rfl, rs⟩) (Keep.newO hl) rfl (q l)⟩
/-- what a value leaves behind is put in another order, or dropped -/
theorem e_re {e : Expr} (h : EvD X e σd Gs (fun d G => ∃ G', Sb G' G ∧ Q d G') R) : EvD X e σd Gs Q R := fun pn xe E F σ H wh hE ob sl =>
  (h pn xe E F σ H wh hE ob sl).imp fun v H' p => Post.re p fun d G z => z
end
end Dl
namespace Dl
open PySem PySem.Spec PyProof.Rows L2
section
variable {prog : Program} {w : World} {A : Around} {E : Value → Shared → Prop} {s : Shared}
/-- the items of a tuple, collected (turned from the kit's lemma for a list) -/
theorem collect_tup {l : Addr} {vs : List Value} {Q : List Value → Shared → Prop} (hl : IsTup s.heap l vs.toArray)
    (h : Q vs { s with heap := (s.heap.push (seqObj "list" #[] 0)).update s.heap.objs.size (Obj.mapSeq (· ++ vs.toArray)) }) (hsz : vs.length ≤ sizeLine := by size_fits) :
    wpAny (model prog w) A (collect (.ref l)) Q E s := by
  obtain ⟨o, ho, hc, n, hd⟩ := id hl
  unfold collect
  refine wpAny_bind (wpAny_runValue (codeAny_builtin entry_proto_collect' ?_))
  show wpAny _ _ (do again (.builtin "list.__iadd__" ⟨[← newList [], .ref l], []⟩)) _ _ s
  refine wpAny_bind (wpAny_newList (wpAny_pure ⟨Code.quiet_builtin _ (by decide +kernel), codeAny_builtin entry_list_iadd' ?_⟩))
  show wpAny _ _ (Builtin.List.listExtendWith (.ref s.heap.objs.size) (.ref l) (.ref s.heap.objs.size)) _ _ { s with heap := s.heap.push (seqObj "list" #[] 0) }
  unfold Builtin.List.listExtendWith
  have ho' : (s.heap.push (seqObj "list" #[] 0)).get? l = some o := Heap.get?_push_of_some _ ho
  refine wpAny_bind (wpAny_typeOf (T := "tuple") ⟨o, ho', hc⟩ ?_)
  have ht : (Value.type "tuple" == Value.type "tuple") = true := by rfl
  rw [if_pos (by rw [ht]; simp)]
  refine wpAny_bind (listItems_at ho' hd ?_)
  refine wpAny_bind (listItems_at (xs := #[]) (n := 0) (Heap.get?_push_size _ rfl) rfl ?_)
  rw [if_neg (by simp)]
  refine wpAny_bind (listUpdate_at (xs := #[]) (n := 0) (Heap.get?_push_size _ rfl) rfl ?_ (Nat.zero_le _) (by show (#[] ++ vs.toArray).size ≤ sizeLine + 1; simp only [Array.size_append, List.size_toArray, List.length_nil]; omega))
  refine wpAny_pure ?_
  show wpAny (model prog w) A (do
      let o ← load s.heap.objs.size
      match o.data with
      | .seq xs _ => pure xs.toList
      | _ => unsupported "internal:collect") Q E { s with heap := (s.heap.push (seqObj "list" #[] 0)).update s.heap.objs.size (Obj.mapSeq (· ++ vs.toArray)) }
  refine wpAny_bind (wpAny_load (get?_update_seq (Heap.get?_push_size _ rfl) _) ?_)
  show wpAny _ _ (pure ((#[] : Array Value) ++ vs.toArray).toList) Q E _
  rw [show ((#[] : Array Value) ++ vs.toArray).toList = vs by simp]
  exact wpAny_pure h
theorem sorted_strsT {l : Addr} {vs : List Value} {ss : List Str} {Q : Value → Shared → Prop} (hl : IsTup s.heap l vs.toArray) (hS : StrsAre vs ss) (h64 : vs.length < 64)
    (h : ∀ (out : Array Value) (ss' : List Str), StrsAre out.toList ss' → ss'.Perm ss → sortedS ss' = true → Q (.ref (s.heap.objs.size + 1)) { s with heap := sortedAll s.heap vs out }) :
    wpAny (model prog w) A (call (.builtin "sorted") [.ref l]) Q E s := by
  refine Calls.call_function_entry kind_sorted plain_sorted entry_sorted (args_sorted1 _) ?_
  unfold Builtin.«sorted»
  refine wpAny_bind (m := checkCount "sorted" 1 1 _) (wpAny_pure ?_)
  refine wpAny_bind (collect_tup hl ?_)
  refine wpAny_bind (wpAny_newList ?_)
  have hsz : ((s.heap.push (seqObj "list" #[] 0)).update s.heap.objs.size (Obj.mapSeq (· ++ vs.toArray))).objs.size = s.heap.objs.size + 1 := by
    rw [Heap.size_update, size_push']
  have hoL : (((s.heap.push (seqObj "list" #[] 0)).update s.heap.objs.size (Obj.mapSeq (· ++ vs.toArray))).push (seqObj "list" vs.toArray 0)).get? (s.heap.objs.size + 1) = some (seqObj "list" vs.toArray 0) := by
    rw [← hsz]; exact Heap.get?_push_size _ rfl
  show wpAny _ _ _ _ _ { s with heap := ((s.heap.push (seqObj "list" #[] 0)).update s.heap.objs.size (Obj.mapSeq (· ++ vs.toArray))).push (seqObj "list" vs.toArray 0) }
  rw [hsz]
  refine wpAny_bind (wpAny_holding (wpAny_call_entry slot_list_sort ⟨_, hoL, rfl⟩ entry_list_sort (list_sort_treeK strKind_oneLt hoL hS.keysOf (fun v₁ v₂ rest e => keyKind_strs (by rw [← e]; exact hS)) h64 fun st' hp hs => ⟨_, rfl, ?_⟩) (args_list_sort _)))
  obtain ⟨ss', h1, h2, h3⟩ := sorted_out_str hS hp hs
  exact wpAny_pure ⟨_, rfl, h _ ss' h1 h2 h3⟩
end
section
variable {X : Cx} {P : Program} {w : World} {K : PySem.W.Frag} {mg : Str → Option Value} {base : Heap} {sc : Scope} {N : List Str} {Vs : List Nat} {GN : List Str} {k : Nat}
variable {σd : Sd} {Gs : Pt} {Q : QD} {R : RX} {pos : Pos} {e : Expr}
def rSortT (K : PySem.W.Frag) : List V → Hp → VK → Prop := fun vs H Q => ∃ (a : Addr) (xs : List Str), vs = [V.ref a] ∧ SqT K H a (xs.map V.str) ∧ xs.length < 64 ∧ ∀ (ys : List Str) (p : Addr), ys.Perm xs → sortedS ys = true → H p = none → Q (.ref p) (L2.upd H p (.lst (ys.map V.str)))
theorem cr_sortT : CallR X (.builtin "sorted") (rSortT X.K) := by
  intro pins s σ H vs us Q I r h
  obtain ⟨a, xs, rfl, hs, h64, q⟩ := h
  obtain ⟨its, rv, hl, _⟩ := I.tuple hs
  rw [Vals.ref1 r]
  have hlen0 := rv.length
  rw [List.length_map] at hlen0
  refine sorted_strsT hl rv.strs (by rw [← hlen0]; exact h64) fun out ys h1 h2 h3 => ?_
  obtain ⟨ep, he'⟩ := PyProof.Rows.sortedAll_at s.heap its out
  have hlen : (ys.map V.str).length ≤ sizeLine := by rw [List.length_map, h2.length_eq]; exact small64 h64
  exact ⟨.ref _, L2.upd H (s.heap.objs.size + 1) (.lst (ys.map V.str)), I.laid (t' := s.toks) (fun _ _ => PyProof.Rows.sortedAll_old) (Nat.le_succ _) ⟨hlen, out.toList, ep, vals_of_strs h1, he'⟩, rfl, q ys _ h2 h3 (I.hok.fresh (Nat.le_succ _))⟩
theorem rds_strs_eq {N' : List Addr} {H : Hp} : ∀ {l : List Str} {vs : List V}, RDs K N' H (l.map D.str) vs → vs = l.map V.str
  | [], _, h => h
  | x :: l, _, h => by
    obtain ⟨v, r, rfl, h1, h2⟩ := h
    cases (show v = .str x from h1)
    rw [List.map_cons, rds_strs_eq h2]
/-- sorted(x) of texts: of a list, of a tuple -/
theorem k_sortedL {x : D} {l : List Str} (hx : LsD X.K Gs x (l.map .str)) (hl : l.length < 64) (q : ∀ ys : List Str, ys.Perm l → sortedS ys = true → Q (.lst (ys.map .str)) Gs) : CalD X (.builtin "sorted") [x] Gs Q := ⟨rSortedS X.K, fun pn xe => cr_sortedS, fun F H vs ob r => by
  obtain ⟨v, _, rfl, rv, rfl⟩ := r
  obtain ⟨a, ws, rfl, ea, rr⟩ := hx F H v ob rv
  rw [rds_strs_eq rr] at ea
  refine ⟨a, l, rfl, .inl (.inl ea), hl, fun ys p hp hs hn => ?_⟩
  have kp := Keep.newF (N := dm (tot Gs F)) (o := .lst (ys.map V.str)) hn
  exact Post.of (d := .lst (ys.map .str)) (ob.newF hn) kp ⟨p, _, rfl, ob.mem_none hn, upd_same, rds_strs ys⟩ (q ys hp hs)⟩
theorem k_sortedT {l : List Str} (hl : l.length < 64) (q : ∀ ys : List Str, ys.Perm l → sortedS ys = true → Q (.lst (ys.map .str)) Gs) : CalD X (.builtin "sorted") [.tup (l.map .str)] Gs Q := ⟨rSortT X.K, fun pn xe => cr_sortT, fun F H vs ob r => by
  obtain ⟨v, _, rfl, rv, rfl⟩ := r
  obtain ⟨a, ws, rfl, ea, rr⟩ := tup_sq rv
  rw [rds_strs_eq rr] at ea
  refine ⟨a, l, rfl, ea, hl, fun ys p hp hs hn => ?_⟩
  have kp := Keep.newF (N := dm (tot Gs F)) (o := .lst (ys.map V.str)) hn
  exact Post.of (d := .lst (ys.map .str)) (ob.newF hn) kp ⟨p, _, rfl, ob.mem_none hn, upd_same, rds_strs ys⟩ (q ys hp hs)⟩
/-- .. one that will change -/
theorem k_sortedTO {l : List Str} (hl : l.length < 64) (q : ∀ (ys : List Str) (p : Addr), ys.Perm l → sortedS ys = true → Q (.ref p) ([(p, .lst (ys.map .str))] :: Gs)) : CalD X (.builtin "sorted") [.tup (l.map .str)] Gs Q := ⟨rSortT X.K, fun pn xe => cr_sortT, fun F H vs ob r => by
  obtain ⟨v, _, rfl, rv, rfl⟩ := r
  obtain ⟨a, ws, rfl, ea, rr⟩ := tup_sq rv
  rw [rds_strs_eq rr] at ea
  refine ⟨a, l, rfl, ea, hl, fun ys p hp hs hn => ?_⟩
  exact Post.of (d := .ref p) (ob.new (m := .lst (ys.map .str)) hn ⟨_, rfl, rds_strs ys⟩) (Keep.newO hn) rfl (q ys p hp hs)⟩
theorem RDs.reverse {N' : List Addr} {H : Hp} : ∀ {ds : List D} {vs : List V}, RDs K N' H ds vs → RDs K N' H ds.reverse vs.reverse
  | [], _, h => by
    rw [show _ = [] from h]
    rfl
  | d :: ds, _, h => by
    obtain ⟨v, r, rfl, h1, h2⟩ := h
    rw [List.reverse_cons, List.reverse_cons]
    exact RDs.append (RDs.reverse h2) (RDs.one h1)
/-- e[::-1] -/
theorem e_revL {kk : Nat} {p1 p2 p3 : Pos} (h : EvD X e σd Gs (fun x G => ∃ ds, LsD X.K G x ds ∧ Q (.lst ds.reverse) G) R) : EvD X (.Subscript e (.Slice none none (some (.UnaryOp .USub (.Constant (.int 1) kk p1) p2)) p3) pos) σd Gs Q R := by
  intro pn xe E F σ H wh hE ob sl
  refine (pe_revL (X := X.tr pn xe) PE.self).get ?_
  refine h.go wh hE Keep.refl ob sl fun v H1 x G1 ob1 k1 _ sl1 rx ⟨ds, hx, q⟩ => ?_
  obtain ⟨a, vs, rfl, ea, r⟩ := hx F H1 v ob1 rx
  refine ⟨a, vs, rfl, .inl (.inl ea), fun p hp => ?_⟩
  exact Post.of (d := .lst ds.reverse) (ob1.newF hp) (k1.trans (Keep.newF hp)) ⟨p, _, rfl, ob1.mem_none hp, upd_same, RDs.keep (Keep.newF hp) _ _ r.reverse⟩ q
/-! ### a dict that is handed over -/
inductive Dct : D → List (Key × D) → Pt → Prop
  | val {kvs : List (Key × D)} : Dct (.dct kvs) kvs []
  | own {q : Addr} {kvs : List (Key × D)} : Dct (.ref q) kvs [[(q, .dK kvs)]]
theorem Dct.dc {x : D} {kvs : List (Key × D)} {ext : Pt} (h : Dct x kvs ext) {A : Pt} : DcD K (A ++ ext) x kvs := by
  cases h with
  | val => exact dc_val
  | own =>
    refine dc_own ?_
    induction A with
    | nil => exact .here .here
    | cons P A ih => exact .next ih
theorem Dct.dc0 {x : D} {kvs : List (Key × D)} {ext : Pt} (h : Dct x kvs ext) : DcD K ext x kvs := h.dc (A := [])
theorem Dct.dc1 {x : D} {kvs : List (Key × D)} {ext : Pt} {P1 : List Cell} (h : Dct x kvs ext) : DcD K (P1 :: ext) x kvs := h.dc (A := [P1])
theorem Dct.pick {x : D} {kvs : List (Key × D)} {ext : Pt} (h : Dct x kvs ext) {P1 : List Cell} : Pick (P1 :: ext) ext [P1] := by
  cases h with
  | val => exact .nil
  | own => exact .cons (.next .here) .nil
theorem sb_back {P1 : List Cell} {ext : Pt} : Sb (P1 :: ext) (ext ++ [P1]) := Sb.per (by
  rw [List.flatten_append, List.flatten_cons, List.flatten_cons, List.flatten_nil, List.append_nil]
  exact List.perm_append_comm)
end
end Dl
namespace Dl
open PySem PySem.Spec PyProof.Rows L2 L2.DX
/-! ### list(d.items()) -/
section
variable {X : Cx}
def rItemsK : V → List V → Hp → VK → Prop := fun x xs H Q => ∃ (a : Addr) (kvs : List (Key × V)), x = .ref a ∧ xs = [] ∧ Rd H a (.dK kvs) ∧ ∀ p, H p = none → Q (.ref p) (L2.upd H p (itemsO p a))
theorem mt_itemsK : MtR X "dict.items" rItemsK := by
  intro pins s σ H x xs v us Q I rx rxs h
  obtain ⟨a, kvs, rfl, rfl, ha, q⟩ := h
  cases rx
  cases rxs
  obtain ⟨z, hd, vs, rel, o, es, ep, ho, hx, hdat, _⟩ := dk_rd I.hok ha
  refine DT.callItems (es := es) (ep := ep) hd ⟨o, ho, hx, hdat⟩ ?_
  have hf : H s.heap.objs.size = none := I.hok.fresh (Nat.le_refl _)
  exact ⟨.ref s.heap.objs.size, L2.upd H s.heap.objs.size (itemsO s.heap.objs.size a), I.laid (t' := s.toks) (fun b u e => Heap.get?_push_of_some _ e) (Nat.le_refl _) (itemsO_ok (Heap.get?_push_size _ rfl)), rfl, q _ hf⟩
def rListItems : List V → Hp → VK → Prop := fun xs H Q => ∃ (p a : Addr) (kvs : List (Key × V)), xs = [.ref p] ∧ H p = some (itemsO p a) ∧ Rd H a (.dK kvs) ∧
  ∀ (H' : Hp) (l : Addr) (as : List Addr), (∀ b o, H b = some o → H' b = some o) → H l = none → H' l = some (.lst (as.map V.ref)) → as.length = kvs.length → (∀ b ∈ as, H b = none) →
    (∀ (j : Nat) (b : Addr) (k : Key) (v : V), as[j]? = some b → kvs[j]? = some (k, v) → H' b = some (.tup [kV k, v])) → Q (.ref l) H'
theorem cr_listItems (hc : X.calm = true) : CallR X (.type "list") rListItems := by
  intro pins s σ H xs us Q I r h
  obtain ⟨p, a, kvs, rfl, hp, ha, q⟩ := h
  obtain rfl := Vals.ref1 r
  have view : s.heap.IsItemsView p a := (show ObjOk X.prog X.w H s.heap p (itemsO p a) from I.hok p _ hp).1
  obtain ⟨z, hd, vs, rel, dd⟩ := dk_rd I.hok ha
  obtain ⟨es, ep, raw, hsz, ent⟩ := dd.raw
  have hl : kvs.length = vs.length := Paired.length rel
  refine PySem.W.dil_call (es := es) (ep := ep) (I.ok.hd hc) view raw (by omega) fun h' tk acc c as hk hlst hlen hG hacc => ?_
  have I1 : Inv X pins σ H { s with heap := h', toks := tk } := I.kept (t' := tk) hk
  have hn0 : H s.heap.objs.size = none := I.hok.fresh (Nat.le_refl _)
  have hvals : Vals (as.map V.ref) acc.toList := by
    rw [hacc]
    exact vals_maps (fun b : Addr => V.ref b) (fun b => Value.ref b) as fun _ _ => rfl
  have I2 : Inv X pins σ (L2.upd H s.heap.objs.size (.lst (as.map V.ref))) { s with heap := h', toks := tk } :=
    I1.take (h' := h') (t' := tk) (fun b ob _ e => e) (I.fpOk (Nat.le_refl _) hn0) ⟨by rw [List.length_map]; omega, acc.toList, c, hvals, hlst⟩
  have nd : as.Nodup := List.Pairwise.imp (fun h => Nat.ne_of_lt h) hG.rise
  obtain ⟨H2, I3, g, qt⟩ := takeT (P := fun b ws => ∃ (j : Nat) (k : Key) (v : V), as[j]? = some b ∧ kvs[j]? = some (k, v) ∧ ws = [kV k, v]) I as _ I2 nd fun b hb => by
    obtain ⟨j, hj⟩ := List.mem_iff_getElem?.mp hb
    obtain ⟨hje, hgt⟩ := hG.pairs j b hj
    obtain ⟨⟨k, v⟩, hkv⟩ : ∃ e, kvs[j]? = some e := ⟨kvs[j]'(by omega), List.getElem?_eq_getElem (by omega)⟩
    obtain ⟨u, hu, ru⟩ := kv_get rel hkv
    obtain ⟨e1, e2⟩ := ent j hje k u hu
    have hbl : s.heap.objs.size < b := hG.above b hb
    refine ⟨Nat.le_of_lt hbl, ?_, [kV k, v], ⟨j, k, v, hj, hkv, rfl⟩, fun H3 => ⟨by rw [sizeLine_eq]; show 2 ≤ 16777216; omega, [es[j].key, es[j].val], .cons (relV_key (show keyIs k es[j].key = true from e1)) (.cons (by rw [e2]; exact ru) .nil), ⟨_, hgt, rfl, 0, rfl⟩⟩⟩
    rw [upd_ne (Nat.ne_of_gt hbl)]
    exact I.hok.fresh (Nat.le_of_lt hbl)
  refine ⟨.ref s.heap.objs.size, H2, I3, rfl, q H2 _ as (fun b o e => g b o (by rw [upd_ne (ne_of_none e hn0)]; exact e)) hn0 (g _ _ upd_same) (by omega) (fun b hb => I.hok.fresh (Nat.le_of_lt (hG.above b hb))) fun j b k v hj hkv => ?_⟩
  obtain ⟨ws, ⟨i, k', v', hi, hkv', rfl⟩, hH⟩ := qt b (List.mem_of_getElem? hj)
  have eij : j = i := (List.getElem?_inj (List.getElem?_eq_some_iff.mp hj).1 nd).mp (hj.trans hi.symm)
  subst eij
  rw [hkv] at hkv'
  cases hkv'
  exact hH
end
section
variable {X : Cx} {P : Program} {w : World} {K : PySem.W.Frag} {mg : Str → Option Value} {base : Heap} {sc : Scope} {N : List Str} {Vs : List Nat} {GN : List Str} {k : Nat}
variable {σd : Sd} {Gs : Pt} {Q : QD} {R : RX} {pos cpos apos : Pos} {e : Expr}
def itemD (x : Key × D) : D := .tup [keyD x.1, x.2]
theorem kd_get {N' : List Addr} {H : Hp} : ∀ {kvs : List (Key × D)} {kv : List (Key × V)}, KD K N' H kvs kv → ∀ (j : Nat) (a : Key) (d : D), kvs[j]? = some (a, d) → ∃ v, kv[j]? = some (a, v) ∧ RD K N' H d v
  | [], _, _, j, a, d, h => by simp at h
  | (a0, d0) :: r, _, h, j, a, d, hj => by
    obtain ⟨v, r', rfl, rd, rr⟩ := h
    cases j with
    | zero =>
      cases hj
      exact ⟨v, rfl, rd⟩
    | succ j => exact kd_get rr j a d hj
theorem rds_of_get {N' : List Addr} {H : Hp} : ∀ {ds : List D} {vs : List V}, ds.length = vs.length → (∀ (j : Nat) (d : D) (v : V), ds[j]? = some d → vs[j]? = some v → RD K N' H d v) → RDs K N' H ds vs
  | [], [], _, _ => rfl
  | d :: ds, v :: vs, h, g => ⟨v, vs, rfl, g 0 d v rfl rfl, rds_of_get (by simpa using h) fun j d' v' h1 h2 => g (j + 1) d' v' (by simpa using h1) (by simpa using h2)⟩
/-- list(e.items()): the pairs as they stand, a list that stays -/
theorem e_listItems {p : Pos} {j : Nat} (B : Bd X P w K mg base sc N Vs GN k) (hm : mg "list" = none) (hG : At GN j ("list" : Str))
    (h : EvD X e σd Gs (fun d G => ∃ kvs, DcD X.K G d kvs ∧ Q (.lst (kvs.map itemD)) G) R)
    (hbase : attributeBase e "items" X.env (eval e X.env) = eval e X.env := by rfl) (hline : (apos.endLine == cpos.line) = true := by rfl)
    (hs : starEach [.Call (.Attribute e "items" apos) [] [] cpos] X.env = (false, eval (.Call (.Attribute e "items" apos) [] [] cpos) X.env) :: starEach [] X.env := by rfl) (hpl : (backTo pos (starEach [] X.env)).any (·.1) = false := by rfl) :
    EvD X (.Call (.Name "list" p) [.Call (.Attribute e "items" apos) [] [] cpos] [] pos) σd Gs Q R := by
  intro pn xe E F σ H wh hE ob sl
  obtain ⟨g1, g2, g3⟩ := B.nm.gl j _ hG.get
  refine (pe_callTy (X := X.tr pn xe) semC_self g1 (by rw [show (X.tr pn xe).mg = mg from B.em]; exact hm) bb_list (pa_cons (pe_bx0 (X := X.tr pn xe) PySem.F.plainAttrs_dict PySem.F.slot_dict_items PySem.F.type_dict_items mt_itemsK PE.self hbase hline) pa_nil hs) g3 g2 hs hpl).get ?_
  refine h.go wh hE Keep.refl ob sl fun v H1 d G1 ob1 k1 _ sl1 rx ⟨kvs, hd, q⟩ => ?_
  obtain ⟨a, kv, rfl, ea, rk⟩ := hd F H1 v ob1 rx
  refine ⟨.inr (.inr ⟨rfl, a, kv, rfl, ea⟩), a, kv, rfl, rfl, ea, fun pv hpv => ?_⟩
  refine semC_get (cr_listItems (X := X.tr pn xe) B.calm) ?_
  have ea2 : Rd (L2.upd H1 pv (itemsO pv a)) a (.dK kv) := by
    rcases ea with ea | ⟨o, ea⟩
    · exact .inl (by rw [upd_ne (ne_of_none ea hpv)]; exact ea)
    · exact .inr ⟨o, by rw [upd_ne (ne_of_none ea hpv)]; exact ea⟩
  refine ⟨pv, a, kv, rfl, upd_same, ea2, fun H' l as hk hl hll hlen hfr hpairs => ?_⟩
  have up : ∀ b o, H1 b = some o → H' b = some o := fun b o e => hk b o (by rw [upd_ne (ne_of_none e hpv)]; exact e)
  have back : ∀ b, L2.upd H1 pv (itemsO pv a) b = none → H1 b = none := fun b hb => by
    cases e : H1 b with
    | none => rfl
    | some o =>
      rw [upd_ne (ne_of_none e hpv), e] at hb
      cases hb
  have kp : Keep (dm (tot G1 F)) H1 (dm (tot G1 F)) H' := fun b o e n => ⟨up b o e, n⟩
  have ob2 : Ob X.K (tot G1 F) H' := ⟨ob1.nd, fun b m hb => by
    obtain ⟨o, e1, e2⟩ := ob1.at_ b m hb
    exact ⟨o, up b o e1, e2.keep kp⟩⟩
  refine Post.of (d := .lst (kvs.map itemD)) ob2 (k1.trans kp) ⟨l, _, rfl, ob1.mem_none (back l hl), hll, ?_⟩ q
  have hkl := kd_lenV rk
  refine rds_of_get (by rw [List.length_map, List.length_map]; omega) fun i d' v' h1 h2 => ?_
  rw [List.getElem?_map] at h1 h2
  cases e1 : kvs[i]? with
  | none => rw [e1] at h1; cases h1
  | some x1 =>
    obtain ⟨ky, dv⟩ := x1
    rw [e1] at h1
    cases h1
    cases e2 : as[i]? with
    | none => rw [e2] at h2; cases h2
    | some b =>
      rw [e2] at h2
      cases h2
      obtain ⟨vv, hvv, rv⟩ := kd_get rk i ky dv e1
      exact ⟨b, _, rfl, .inl ⟨ob1.mem_none (back b (hfr b (List.mem_of_getElem? e2))), .inl (hpairs i b ky vv e2 hvv)⟩, _, _, rfl, rd_keyV ky, _, _, rfl, RD.keep kp _ _ rv, rfl⟩
end
end Dl
namespace Dl
open PySem PySem.Spec PyProof.Rows L2
/-! ### dict comprehensions: {key: value for name in iter} -/
section
variable {X : Cx} {P : Program} {w : World} {K : PySem.W.Frag} {mg : Str → Option Value} {base : Heap} {sc : Scope} {N : List Str} {Vs : List Nat} {GN : List Str} {k : Nat}
variable {σd : Sd} {Gs : Pt} {Q : QD} {R : RX} {e a b c o tg iter elt kx vx : Expr} {pos p2 apos cpos : Pos}
def DcO (X : Cx) (P : Program) (w : World) (K : PySem.W.Frag) (mg : Str → Option Value) (base : Heap) (sc : Scope) (N : List Str) (k : Nat) (tg iter kx vx : Expr) (scope : Scope) (vs : List Nat) (V' : List Nat) (GN' : List Str) (ok : Dl.D → Prop) (put : Sd → Dl.D → Sd) (σd : Sd) (Gs : Pt) (Q : QD) (R : RX) : Prop :=
  ItE X tg iter σd Gs (fun ds stay G1 => ∃ I : List Dl.D → List (Key × Dl.D) → Pt → Prop, I ds [] G1 ∧
      (∀ d r acc G', I (d :: r) acc G' → stay G' ∧ ok d ∧ ∀ Y, Bd Y P w K mg base (relS scope sc) N V' GN' k → EvD Y kx (put (wipeD σd vs) d) G' (fun kd G3 => ∃ key : Key, kd = keyD key ∧
        ∀ Z, Bd Z P w K mg base (relS scope sc) N V' GN' k → EvD Z vx (put (wipeD σd vs) d) G3 (fun y G4 => acc.length < sizeLine ∧ I r (putD acc key y) G4) R0) R0) ∧ (∀ acc G', I [] acc G' → stay G' ∧ ∀ p, Q (.ref p) ([(p, M.dK acc)] :: G'))) R
theorem dc_readO {scope : Scope} {own : List (Str × Nat)} {V' : List Nat} {GN' : List Str} {g : TG} {ok : Dl.D → Prop} {put : Sd → Dl.D → Sd} (B : Bd X P w K mg base sc N Vs GN k) (hb : blkC N sc scope own = true) (hn : blkNC scope sc N V' GN' = true)
    (T : CTg X tg scope (own.map (·.2)) g ok put)
    (h : DcO X P w K mg base sc N k tg iter kx vx scope (own.map (·.2)) V' GN' ok put σd Gs Q R) {pn : List (Addr × Obj)} {xe : Value → Shared → Prop} {E : XK} {F : List Cell} {σ : L2.St} {H : Hp} (wh : Wh X pn xe E) (hE : ∀ c od H', Wx X.K F Gs H R c od H' → E c od H') (ob : Ob X.K (tot Gs F) H) (sl : Sl X.K (dm (tot Gs F)) H σd σ) :
    tDc (semPI (X.tr pn xe) tg iter) g tYes (lcE X scope kx) (lcE X scope vx) (own.map (·.2)) σ H (Post X.K F Gs H Q) := by
  refine semPI_imp (h pn xe E F σ H wh hE ob sl) fun J H1 ⟨ds, stay, G1, ob1, k1, jd, I, i0, turn, done⟩ p hp => ?_
  have obN : Ob X.K (tot ([(p, M.dK [])] :: G1) F) (L2.upd H1 p (.dK [])) := ob1.new (m := .dK []) hp ⟨[], rfl, rfl⟩
  have kN : Keep (dm (tot G1 F)) H1 (dm (tot G1 ([(p, M.dK [])] ++ F))) (L2.upd H1 p (.dK [])) := (Keep.newO (N := dm (tot G1 F)) hp).trans (Keep.self fun x hx => mt_shift (G := G1) (F := F) (c := (p, M.dK [])) hx)
  refine ⟨fun i m H' => m = ds.length - i ∧ i ≤ ds.length ∧ ∃ acc G', Ob X.K (tot G' ([(p, M.dK acc)] ++ F)) H' ∧ Keep (dm (tot G1 F)) H1 (dm (tot G' ([(p, M.dK acc)] ++ F))) H' ∧ I (ds.drop i) acc G', ⟨_, rfl, Nat.zero_le _, [], G1, obN.down, kN, i0⟩, ?_⟩
  rintro i m H' ⟨rfl, hi, acc, G', ob', k', hI⟩
  by_cases hlt : i < ds.length
  · have hd : ds[i]? = some ds[i] := List.getElem?_eq_getElem hlt
    rw [drop_cons hd] at hI
    obtain ⟨st, okd, ht⟩ := turn _ _ _ _ hI
    obtain ⟨hgo, hy⟩ := (jd i G' H' [(p, M.dK acc)] ob' k' st).1 _ hd
    refine .inr ⟨hgo, fun H2 => ∃ acc2 G2, Ob X.K (tot G2 ([(p, M.dK acc2)] ++ F)) H2 ∧ Keep (dm (tot G1 F)) H1 (dm (tot G2 ([(p, M.dK acc2)] ++ F))) H2 ∧ I (ds.drop (i + 1)) acc2 G2, fun H2 ⟨acc2, G2, a1, a2, a3⟩ => ⟨_, by omega, rfl, hlt, acc2, G2, a1, a2, a3⟩, fun x Hx y => ?_⟩
    obtain ⟨obx, kx', rx⟩ := hy x Hx y
    have slx : Sl X.K (dm (tot G' ([(p, M.dK acc)] ++ F))) Hx (wipeD σd (own.map (·.2))) (L2.wipe σ (own.map (·.2))) := (sl.keep ((k1.trans k').trans kx')).wipe _
    refine T.go _ _ _ _ _ _ rx okd slx _ fun σ2 sl2 hw => ⟨hw, ?_⟩
    unfold tYes
    dsimp only
    rw [if_pos rfl]
    intro s H0 C cl fp
    refine EvD.go (X := X.blk s H0 scope (compEnvC scope cl C X.env) fp) (pn := []) (xe := fun _ _ => False) (ht _ (bd_blk B hn s H0 C cl fp)) wh_blk (fun c od H' w => ?_) Keep.refl obx sl2 fun kv H3 kd G3 ob3 _ k3 sl3 r3 ⟨key, ek, hv⟩ => ?_
    · obtain ⟨_, _, _, _, _, _, _, z⟩ := w
      exact z.elim
    subst ek
    obtain rfl := rd_key r3
    intro s H0 C cl fp
    refine EvD.go (X := X.blk s H0 scope (compEnvC scope cl C X.env) fp) (pn := []) (xe := fun _ _ => False) (hv _ (bd_blk B hn s H0 C cl fp)) wh_blk (fun c od H' w => ?_) Keep.refl ob3 sl3 fun y H4 d G4 ob4 _ k4 _ r4 ⟨hz, q⟩ => ?_
    · obtain ⟨_, _, _, _, _, _, _, z⟩ := w
      exact z.elim
    obtain ⟨o, e4, vs, rfl, rv⟩ := ob4.up.get (.here .here)
    refine ⟨vs, key, rfl, e4, by rw [kd_lenV rv]; exact hz, putD acc key d, G4, ?_, ?_, q⟩
    · have u : Upd ([(p, M.dK acc)] :: G4) p (.dK acc) (.dK (putD acc key d)) ([(p, M.dK (putD acc key d))] :: G4) := .here .here
      have r4' : RD X.K (dm (tot ([(p, M.dK acc)] :: G4) F)) H4 d y := RD.perm (fun x hx => mt_unshift hx) _ _ r4
      exact (ob4.up.upd u (m' := .dK (putD acc key d)) ⟨_, rfl, kd_put key r4' rv⟩).down
    · have u : Upd ([(p, M.dK acc)] :: G4) p (.dK acc) (.dK (putD acc key d)) ([(p, M.dK (putD acc key d))] :: G4) := .here .here
      have s1 : Keep (dm (tot G4 ([(p, M.dK acc)] ++ F))) H4 (dm (tot ([(p, M.dK acc)] :: G4) F)) H4 := Keep.self fun x hx => mt_unshift hx
      have s2 : Keep (dm (tot ([(p, M.dK acc)] :: G4) F)) H4 (dm (tot ([(p, M.dK (putD acc key d))] :: G4) F)) (L2.upd H4 p (.dK (putK vs key y))) := Keep.updD u
      have s3 : Keep (dm (tot ([(p, M.dK (putD acc key d))] :: G4) F)) (L2.upd H4 p (.dK (putK vs key y))) (dm (tot G4 ([(p, M.dK (putD acc key d))] ++ F))) (L2.upd H4 p (.dK (putK vs key y))) := Keep.self fun x hx => mt_shift hx
      exact ((((((k'.trans kx').trans k3).trans k4).trans s1).trans s2).trans s3)
  · have hd : ds[i]? = none := List.getElem?_eq_none_iff.mpr (by omega)
    have e : ds.drop i = [] := List.drop_eq_nil_of_le (by omega)
    rw [e] at hI
    obtain ⟨st, q⟩ := done _ _ hI
    refine .inl ⟨(jd i G' H' [(p, M.dK acc)] ob' k' st).2 hd, .ref p, [(p, M.dK acc)] :: G', ob'.up, ?_, rfl, q p⟩
    exact (k1.trans k').trans (Keep.self fun x hx => mt_unshift hx)
theorem e_dcO {scope : Scope} {own : List (Str × Nat)} {V' : List Nat} {GN' : List Str} {g : TG} {ok : Dl.D → Prop} {put : Sd → Dl.D → Sd} (B : Bd X P w K mg base sc N Vs GN k) (hb : blkC N sc scope own = true) (hn : blkNC scope sc N V' GN' = true)
    (T : CTg X tg scope (own.map (·.2)) g ok put) (h : DcO X P w K mg base sc N k tg iter kx vx scope (own.map (·.2)) V' GN' ok put σd Gs Q R)
    (hs : ∀ x, foldedSetIterable iter X.env x = pure x := by intro _; rfl) : EvD X (.DictComp kx vx [⟨tg, iter, [], 0⟩] scope pos) σd Gs Q R := by
  intro pn xe E F σ H wh hE ob sl
  obtain ⟨bok, nd'⟩ := lc_ok B hb pn xe
  exact (pe_dc (X := X.tr pn xe) (own := own) B.calm nd' PI.self bok T.pg (fun s H C cl fp => pts_nil) lcE_pe lcE_pe hs).get (dc_readO B hb hn T h wh hE ob sl)
/-- .. by the number of turns, one name -/
theorem dc_ {x : Str} {px : Pos} {scope : Scope} {j : Nat} (own : List (Str × Nat)) (V' : List Nat) (GN' : List Str) (hown : own = [(x, j)]) (B : Bd X P w K mg base sc N Vs GN k) (hN : At N j x) (hV : V'[j]? = some 2) (hb : blkC N sc scope own = true) (hn : blkNC scope sc N V' GN' = true)
    (h : ItE X (.Name x px) iter σd Gs (fun ds stay G1 => ∃ J : Nat → List (Key × D) → Pt → Prop, J 0 [] G1 ∧ (∀ i d acc G', ds[i]? = some d → J i acc G' → stay G' ∧ ∃ σ', SetAt σd j (some d) σ' ∧ ∀ Y, Bd Y P w K mg base (relS scope sc) N V' GN' k → EvD Y kx σ' G' (fun kd G3 => ∃ key : Key, kd = keyD key ∧
        ∀ Z, Bd Z P w K mg base (relS scope sc) N V' GN' k → EvD Z vx σ' G3 (fun y G4 => acc.length < sizeLine ∧ J (i + 1) (putD acc key y) G4) R0) R0) ∧ (∀ acc G', J ds.length acc G' → stay G' ∧ ∀ p, Q (.ref p) ([(p, M.dK acc)] :: G'))) R)
    (hs : ∀ x, foldedSetIterable iter X.env x = pure x := by intro _; rfl) : EvD X (.DictComp kx vx [⟨.Name x px, iter, [], 0⟩] scope pos) σd Gs Q R := by
  subst hown
  refine e_dcO B hb hn (ctg_name B hn hN.get hV (List.mem_singleton.mpr rfl)) ?_ hs
  intro pn xe E F σ H wh hE ob sl
  refine semPI_imp (h pn xe E F σ H wh hE ob sl) fun Jt H1 ⟨ds, stay, G1, a1, a2, a3, J, j0, turn, done⟩ => ⟨ds, stay, G1, a1, a2, a3, fun r acc G' => ∃ i, r = ds.drop i ∧ i ≤ ds.length ∧ J i acc G', ⟨0, rfl, Nat.zero_le _, j0⟩, ?_, ?_⟩
  · rintro d r acc G' ⟨i, e, hi, hJ⟩
    have hd : ds[i]? = some d := by
      have := congrArg List.head? e
      rw [List.head?_cons, List.head?_drop] at this
      exact this.symm
    have hr : r = ds.drop (i + 1) := by
      have := congrArg List.tail e
      rw [List.tail_cons, List.tail_drop] at this
      exact this
    have hlt : i < ds.length := (List.getElem?_eq_some_iff.mp hd).1
    obtain ⟨st, σ', hs', ev⟩ := turn i d acc G' hd hJ
    refine ⟨st, True.intro, fun Y BY => ?_⟩
    have e2 := hs'.eq
    subst e2
    show EvD Y kx ((σd.set j none).set j (some d)) G' (fun kd G3 => ∃ key : Key, kd = keyD key ∧ ∀ Z, Bd Z P w K mg base (relS scope sc) N V' GN' k → EvD Z vx ((σd.set j none).set j (some d)) G3 _ R0) R0
    rw [List.set_set]
    exact EvD.imp (ev Y BY) fun kd G3 ⟨key, ek, hv⟩ => ⟨key, ek, fun Z BZ => EvD.imp (hv Z BZ) fun y G4 ⟨hz, q⟩ => ⟨hz, i + 1, hr, hlt, q⟩⟩
  · rintro acc G' ⟨i, e, hi, hJ⟩
    have hi2 : i = ds.length := by
      have := congrArg List.length e
      rw [List.length_nil, List.length_drop] at this
      omega
    subst hi2
    exact done acc G' hJ
theorem sw_cellD {kx vx : Expr} {gs : List Comprehension} {scope : Scope} {pos py : Pos} {y : Str} {l : Nat} {env : Env} (hy : env.scope.names.lookup y = some .cell) : swapsWith (.DictComp kx vx gs scope pos) (some (.Name y py)) l env = pure false := by
  have ky : env.kindOf y = some .cell := hy
  unfold swapsWith
  simp only [ky]
  have e : ((some NameKind.cell : Option NameKind) == some NameKind.local) = false := rfl
  rw [e, Bool.and_false, Bool.false_and, Bool.false_and]
/-- name = {..}, the name read in a block within -/
theorem ssetD_ {nx bk ct : Sd → Pt → Prop} {rt : QD} {ex : RX} {i : Nat} {y : Str} {py spos : Pos} {gs : List Comprehension} {scope : Scope} (B : Bd X P w K mg base sc N Vs GN k) (hN : At N i y) (hV : Vs[i]? = some 2) (hc : sc.names.lookup y = some .cell)
    (h : EvD X (.DictComp kx vx gs scope pos) σd Gs (fun d G => ∃ σ', SetAt σd i (some d) σ' ∧ nx σ' G) ex) : StD X (.Assign [.Name y py] (.DictComp kx vx gs scope pos) spos) σd Gs ⟨nx, rt, bk, ct, ex⟩ :=
  sset_ B hN hV h (hs := sw_cellD (by rw [B.eS]; exact hc))
/-! ### fields where there are several classes: the cell tells the class -/
theorem fo_H {p C : Addr} {ns : List Str} {ds : List Dl.D} {f : Str} {d : Dl.D} {j : Nat} (B : Bd X P w K mg base sc N Vs GN k) (h : Has Gs p (.ins C ns ds)) (T : ClsI K C ns) (hj : At ns j f) (hd : At ds j d) (q : Q d Gs) : FldD X.K (.ref p) f Gs Q := fo_own B T h hj hd q
theorem fs_oldH {p C : Addr} {n0 : List Str} {d0 : List Dl.D} {ns : List Str} {ds ds' : List Dl.D} {f : Str} {d : Dl.D} {Gs' : Pt} {j : Nat} {Q : Pt → Prop} (B : Bd X P w K mg base sc N Vs GN k) (h0 : Has Gs p (.ins C n0 d0)) (T : ClsI K C ns) (hj : At ns j f) (u : Upd Gs p (.ins C ns ds) (.ins C ns ds') Gs') (hd : SetAt ds j d ds') (hl : j < ds.length) (hz : ns.length < 1000) (q : Q Gs') : SfD X.K (.ref p) f d Gs Q := fs_old B T hj u hd hl hz q
theorem fs_newH {p C : Addr} {n0 : List Str} {d0 : List Dl.D} {ns n1 n2 : List Str} {ds ds2 : List Dl.D} {f : Str} {d : Dl.D} {Gs' : Pt} {Q : Pt → Prop} (B : Bd X P w K mg base sc N Vs GN k) (h0 : Has Gs p (.ins C n0 d0)) (T : ClsI K C ns) (u : Upd Gs p (.ins C n1 ds) (.ins C n2 ds2) Gs') (e0 : ds ++ [d] = ds2) (e1 : ns.take ds.length = n1) (e2 : ns.take (ds.length + 1) = n2) (hj : ns[ds.length]? = some f) (hz : ns.length < 1000) (q : Q Gs') : SfD X.K (.ref p) f d Gs Q := fs_new' B T u e0 e1 e2 hj hz q
end
end Dl
/-! ### sorted(d, reverse=True): the keys, all texts -/
namespace Dl
open PySem PyProof.Rows
section
variable {prog : Program} {w : World} {A : Around} {E : Value → Shared → Prop} {s : Shared}
/-- the list turned round, sorted, turned round again -/
theorem sort_treeKR {κ : KeyKind} (hO : κ.OneLt) {a : Addr} {vs : List Value} {n : Nat} {P : Fin → Shared → Prop} (ho : s.heap.get? a = some (seqObj "list" vs.toArray n))
    (h0 : KeysOf κ (pairsOf vs)) (hkk : ∀ v₁ v₂ rest, vs = v₁ :: v₂ :: rest → keyKind' (v₁ :: v₂ :: rest).toArray = pure oneType') (hL : vs.length ≤ sizeLine)
    (h : ∀ st' : SortSt, (arrOf st').Perm (pairsOf vs) → SortedToK κ (arrOf st') (pairsOf vs).size → P (.done (.ret .none)) { s with heap := sortedHeap s.heap a vs ((arrOf st').map (·.2)).reverse }) :
    wpAny (model prog w) A (Builtin.«list.sort» ⟨[.ref a], [(Str.ofString "reverse", .bool true)]⟩) P E s := by
  have hL2 := hL
  rw [sizeLine_eq] at hL2
  rw [list_sort_rev]
  have ha : a < s.heap.objs.size := Heap.lt_size ho
  refine wpAny_bind (listItems_at ho rfl ?_)
  refine wpAny_bind (listUpdate_at ho rfl ?_)
  obtain ⟨e1, ho1⟩ : ∃ e1, (s.heap.update a (Obj.mapSeq fun _ => #[])).get? a = some (seqObj "list" #[] e1) := ⟨_, get?_update_seq ho (fun _ => #[])⟩
  refine wpAny_bind (seqEpoch_at ho1 rfl ?_)
  refine wpAny_bind (wpAny_newTuple ?_)
  refine wpAny_bind (wpAny_newList ?_)
  refine wpAny_holding ?_
  have ho6 : (((s.heap.update a (Obj.mapSeq fun _ => #[])).push (seqObj "tuple" vs.toArray 0)).push (seqObj "list" #[] 0)).get? a = some (seqObj "list" #[] e1) := by
    rw [Heap.get?_push_ne _ _ _ (by rw [size_push', Heap.size_update]; exact Nat.ne_of_lt (Nat.lt_succ_of_lt ha)), Heap.get?_push_ne _ _ _ (by rw [Heap.size_update]; exact Nat.ne_of_lt ha)]
    exact ho1
  show wpAny (model prog w) A _ P E { s with heap := ((s.heap.update a (Obj.mapSeq fun _ => #[])).push (seqObj "tuple" vs.toArray 0)).push (seqObj "list" #[] 0) }
  have hsz : vs.toArray.size = vs.length := by simp
  have fin := h
  have hstart : ((vs.toArray.zip vs.toArray).reverse).Perm (pairsOf vs) := Array.perm_iff_toList_perm.mpr (by rw [Array.toList_reverse]; exact List.reverse_perm _)
  simp only [if_true]
  refine wpAny_bind (wpAny_rule ?_)
  by_cases h2 : vs.toArray.size < 2
  · rw [if_pos h2, if_pos h2]
    refine wpAny_bind (wpAny_pure ?_)
    rw [StateT.run_pure]
    refine wpAny_bind (wpAny_pure ?_)
    dsimp only
    refine wpAny_bind (seqEpoch_at ho6 rfl ?_)
    refine wpAny_bind (listUpdate_at ho6 rfl ?_ (hsz2 := by
      rw [Array.size_reverse, Array.size_map]; show (vs.toArray.zip vs.toArray).reverse.size ≤ _; rw [Array.size_reverse, Array.size_zip, sizeLine_eq]; omega))
    simp only [bne_self_eq_false, Bool.false_eq_true, if_false]
    refine wpAny_pure (fin (SortSt.mk' general' (vs.toArray.zip vs.toArray).reverse #[] 7 none) hstart ?_)
    intro i j hij hj
    have : i = j := by rw [pairsOf_size] at hj; omega
    subst this; exact KeyOrd.kle_refl _
  · rw [if_neg h2, if_neg h2]
    obtain ⟨v₁, v₂, rest, rfl⟩ : ∃ v₁ v₂ rest, vs = v₁ :: v₂ :: rest := by
      match vs, hsz, h2 with
      | [], _, h2 => simp at h2
      | [_], _, h2 => simp at h2
      | v₁ :: v₂ :: rest, _, _ => exact ⟨v₁, v₂, rest, rfl⟩
    rw [hkk _ _ _ rfl]
    refine wpAny_bind (wpAny_pure ?_)
    refine wpAny_bind (wpAny_mono (wpS_sortRunsAny (κ := κ) (a₀ := pairsOf (v₁ :: v₂ :: rest)) (st := SortSt.mk' oneType' ((v₁ :: v₂ :: rest).toArray.zip (v₁ :: v₂ :: rest).toArray).reverse #[] 7 none)
      (Q := fun _ st' => (arrOf st').Perm (pairsOf (v₁ :: v₂ :: rest)) ∧ failedOf st' = none ∧ SortedToK κ (arrOf st') (pairsOf (v₁ :: v₂ :: rest)).size)
      hO h0 ⟨hstart, rfl, rfl⟩ rfl (by rw [pairsOf_size]; simp) fun st' a1 a2 a3 => ⟨a1, a2, a3⟩) ?_ fun _ _ e => e)
    rintro ⟨⟨⟩, st'⟩ s' ⟨rfl, hp, hf, hs⟩
    dsimp only
    refine wpAny_bind (seqEpoch_at ho6 rfl ?_)
    refine wpAny_bind (listUpdate_at ho6 rfl ?_ (hsz2 := by rw [Array.size_reverse]; refine Nat.le_trans (Nat.le_of_eq ((Array.size_map ..).trans (hp.size_eq.trans (pairsOf_size _)))) ?_; rw [sizeLine_eq]; omega))
    rw [hf]
    simp only [bne_self_eq_false, Bool.false_eq_true, if_false]
    exact wpAny_pure (fin st' hp hs)
end
end Dl
namespace Dl
open PySem PySem.Spec PyProof.Rows L2
def rSortedDR : List V → List V → Hp → VK → Prop := fun xs zs H Q => ∃ (a : Addr) (kvs : List (Key × V)) (ks : List Str), xs = [.ref a] ∧ zs = [.bl true] ∧ Rd H a (.dK kvs) ∧ kvs.map (·.1) = ks.map Sum.inr ∧ ks.length < 64 ∧
    ∀ ys p, ys.Perm ks → sortedS ys = true → H p = none → Q (.ref p) (L2.upd H p (.lst (ys.reverse.map V.str)))
theorem cr_sortedDR {X : Cx} (hcalm : X.calm = true) : CallRK X (.builtin "sorted") [Str.ofString "reverse"] rSortedDR := by
  intro pins s σ H xs zs us ws Q I r rz q
  obtain ⟨a, kvs, ks, rfl, rfl, hd, hks, h64, q⟩ := q
  obtain rfl := Vals.ref1 r
  obtain ⟨w1, rfl, e1⟩ := vals1 rz
  obtain rfl : w1 = Value.bool true := e1
  obtain ⟨z, lo, vs, rel, dd⟩ := dk_rd I.hok hd
  obtain ⟨ep, hat⟩ := dd.dictAt
  have hkeys : vs.map (·.1) = ks.map Sum.inr := rel.keys.symm.trans hks
  have hl : vs.length = ks.length := by
    have e := congrArg List.length hkeys
    rw [List.length_map, List.length_map] at e
    exact e
  have h16 : vs.length ≤ sizeLine := by rw [hl, sizeLine_eq]; omega
  refine PyProof.Rows.call_function_entry_kw PyProof.Rows.kind_sorted PyProof.Rows.plain_sorted PyProof.Rows.entry_sorted (PyProof.Rows.args_sorted_rev _ _) ?_
  unfold Builtin.«sorted»
  refine wpAny_bind (m := checkCount "sorted" 1 1 _) (wpAny_pure ?_)
  refine wpAny_bind (PySem.W.kdu_collect (A := X.A.in1) (PySem.W.kdl_dict (knd := mixKind X.prog X.w) (kvs := vs) (ep := ep) lo) (I.ok.hd hcalm) hat h16 fun h' tk acc hk hacc => ?_)
  have hal : acc.toList.length = ks.length := by rw [Array.length_toList, hacc.1, hl]
  have hS : StrsAre acc.toList ks := strs_at hal fun j v e => by
    obtain ⟨k, x, e1, e2⟩ := hacc.2 j v (by rw [← Array.getElem?_toList]; exact e)
    have e3 : (vs.map (·.1))[j]? = some k := by rw [List.getElem?_map, e1]; all_goals rfl
    rw [hkeys, List.getElem?_map] at e3
    cases e4 : ks[j]? with
    | none => rw [e4] at e3; cases e3
    | some y =>
      rw [e4] at e3
      have e5 : Sum.inr y = k := Option.some.inj e3
      subst e5
      obtain ⟨t, ev⟩ := Value.isStrOf_shape (x := y) (v := v) e2
      exact ⟨y, t, rfl, ev⟩
  have I1 : Inv X pins σ H { s with heap := h', toks := tk } := I.kept hk
  refine wpAny_bind (wpAny_newList ?_ (by rw [hal, sizeLine_eq]; omega))
  have hoL : (h'.push (seqObj "list" acc.toList.toArray 0)).get? h'.objs.size = some (seqObj "list" acc.toList.toArray 0) := Heap.get?_push_size _ rfl
  show wpAny _ _ _ _ _ { s with heap := h'.push (seqObj "list" acc.toList.toArray 0), toks := tk }
  refine wpAny_bind (wpAny_holding (PyProof.Rows.wpAny_call_entry_kw PyProof.Rows.slot_list_sort ⟨_, hoL, rfl⟩ PyProof.Rows.entry_list_sort
    (sort_treeKR strKind_oneLt (s := { s with heap := h'.push (seqObj "list" acc.toList.toArray 0), toks := tk }) hoL hS.keysOf (fun v₁ v₂ rest e => keyKind_strs (by rw [← e]; exact hS)) (by rw [hal, sizeLine_eq]; omega) fun st' hp hs => ⟨_, rfl, ?_⟩)
    (PyProof.Rows.args_list_sort_rev _ _)))
  obtain ⟨ys, g1, g2, g3⟩ := sorted_out_str hS hp hs
  obtain ⟨e', he'⟩ := PyProof.Rows.sortedHeap_at (vs := acc.toList) (out := ((arrOf st').map (·.2)).reverse) hoL
  have hlen : (ys.reverse.map V.str).length ≤ sizeLine := by
    rw [List.length_map, List.length_reverse, g2.length_eq]
    exact Nat.le_trans (Nat.le_of_lt h64) (by decide)
  have hv : Vals (ys.reverse.map V.str) (((arrOf st').map (·.2)).reverse).toList := by
    rw [Array.toList_reverse, List.map_reverse]
    exact (vals_of_strs g1).reverse
  refine wpAny_pure ⟨_, rfl, .ref h'.objs.size, L2.upd H h'.objs.size (.lst (ys.reverse.map V.str)), I1.laid (t' := tk) (fun b u e => ?_) (Nat.le_refl _)
    (show ObjOk X.prog X.w _ _ _ (.lst (ys.reverse.map V.str)) from ⟨hlen, (((arrOf st').map (·.2)).reverse).toList, e', hv, by rw [Array.toArray_toList]; exact he'⟩), rfl, q ys _ g2 g3 (I1.hok.fresh (Nat.le_refl _))⟩
  have hb : b < h'.objs.size := Heap.lt_size e
  rw [PyProof.Rows.sortedHeap_old (Nat.ne_of_lt hb) (by rw [size_push']; exact Nat.lt_succ_of_lt hb)]
  exact Heap.get?_push_of_some _ e
section
variable {X : Cx} {P : Program} {w : World} {K : PySem.W.Frag} {mg : Str → Option Value} {base : Heap} {sc : Scope} {N : List Str} {Vs : List Nat} {GN : List Str} {k : Nat}
variable {σd : Sd} {Gs : Pt} {Q : QD} {R : RX} {e : Expr} {pos : Pos}
/-- sorted(d, reverse=True) -/
theorem e_sortedDR {p kp kq : Pos} {c0 j : Nat} (B : Bd X P w K mg base sc N Vs GN k) (hm : mg "sorted" = none) (hG : At GN j ("sorted" : Str))
    (h : EvD X e σd Gs (fun x G => ∃ (kvs : List (Key × Dl.D)) (ks : List Str), DcD X.K G x kvs ∧ kvs.map (·.1) = ks.map Sum.inr ∧ ks.length < 64 ∧ ∀ ys : List Str, ys.Perm ks → sortedS ys = true → Q (.lst (ys.reverse.map .str)) G) R)
    (he : starEach [e] X.env = [(false, eval e X.env)] := by rfl) : EvD X (.Call (.Name "sorted" p) [e] [⟨some "reverse", .Constant (.bool true) c0 kp, kq⟩] pos) σd Gs Q R := by
  intro pn xe E F σ H wh hE ob sl
  obtain ⟨g1, g2, g3⟩ := B.nm.gl j _ hG.get
  have he' : starEach [e] (X.tr pn xe).env = [(false, eval e (X.tr pn xe).env)] := he
  refine (pe_callBK (X := X.tr pn xe) (t := tCons (sem (X.tr pn xe) e) tNil) (cr_sortedDR (X := X.tr pn xe) B.calm) g1 (by rw [show (X.tr pn xe).mg = mg from B.em]; exact hm) boot_sorted (pa_cons PE.self pa_nil he') (pk_cons pe_bl pk_nil) g3 g2 (by rw [he']; rfl) (by rw [he']; rfl)).get ?_
  refine h.go wh hE Keep.refl ob sl fun v H1 x G1 ob1 k1 _ sl1 rx ⟨kvs, ks, hd, hk, hl, q⟩ => ?_
  obtain ⟨p', kv, rfl, e1, rr⟩ := hd F H1 v ob1 rx
  refine ⟨p', kv, ks, rfl, rfl, e1, by rw [kd_keysEq rr, hk], hl, fun ys l hp hs hl => ?_⟩
  have kp := Keep.newF (N := dm (tot G1 F)) (o := .lst (ys.reverse.map V.str)) hl
  exact (Post.of (d := .lst (ys.reverse.map .str)) (ob1.newF hl) kp ⟨l, _, rfl, ob1.mem_none hl, upd_same, rds_strs ys.reverse⟩ (q ys hp hs)).trans k1
end
end Dl
namespace Dl
open PySem PySem.Spec PyProof.Rows L2
section
variable {X : Cx} {P : Program} {w : World} {K : PySem.W.Frag} {mg : Str → Option Value} {base : Heap} {sc : Scope} {N : List Str} {Vs : List Nat} {GN : List Str} {k : Nat}
variable {σd : Sd} {Gs : Pt} {Q : QD} {R : RX} {e tg iter elt : Expr} {pos : Pos} {body : List Stmt}
variable {nx bk ct : Sd → Pt → Prop} {rt : QD} {ex : RX}
/-! ### the keys of a dict that stays, one after another -/
theorem kd_key {N' : List Addr} {H : Hp} : ∀ {kvs : List (Key × Dl.D)} {kv : List (Key × V)}, RDk K N' H kvs kv → kv.map (·.1) = kvs.map (·.1)
  | [], kv, h => by
    cases (show kv = [] from h)
    rfl
  | (a, d) :: r, kv, h => by
    obtain ⟨v, r', rfl, _, rr⟩ := h
    rw [List.map_cons, List.map_cons, kd_key rr]
theorem it_dct {Q : List Dl.D → (Pt → Prop) → Pt → Prop} (h : EvD X iter σd Gs (fun x G => ∃ kvs, x = .dct kvs ∧ Q (kvs.map fun z => keyD z.1) (fun _ => True) G) R) : ItE X tg iter σd Gs Q R := by
  intro pn xe E F σ H wh hE ob sl
  refine (pi_keys (X := X.tr pn xe) PE.self).get ?_
  refine h.go wh hE Keep.refl ob sl fun v H1 x G1 ob1 k1 _ sl1 rx ⟨kvs, ex, q⟩ => ?_
  subst ex
  obtain ⟨a, o, kv, rfl, n, t, r⟩ := rx
  refine ⟨a, o, rfl, .inl ⟨kv, t, _, _, G1, ob1, k1, ?_, q⟩⟩
  intro i G H' Fx ob' kp st
  obtain ⟨t', n'⟩ := kp a _ t n
  have hk := kd_key r
  refine ⟨fun d hd => ?_, fun hd => ⟨t', ?_⟩⟩
  · rw [List.getElem?_map] at hd
    obtain ⟨⟨ky, dv⟩, hkv, rfl⟩ := Option.map_eq_some_iff.mp hd
    have e1 : (kv.map (·.1))[i]? = some ky := by rw [hk, List.getElem?_map, hkv]; rfl
    rw [List.getElem?_map] at e1
    obtain ⟨⟨k2, v2⟩, e2, e3⟩ := Option.map_eq_some_iff.mp e1
    cases e3
    refine ⟨⟨t', (List.getElem?_eq_some_iff.mp e2).1⟩, fun x H'' ⟨e4, k3, v3, e5, e6⟩ => ?_⟩
    subst e4
    rw [e2] at e5
    cases e5
    subst e6
    exact ⟨ob', Keep.refl, rd_keyV _⟩
  · have := List.getElem?_eq_none_iff.mp hd
    rw [List.length_map] at this
    have hl := congrArg List.length hk
    rw [List.length_map, List.length_map] at hl
    omega
/-- for x in d: a dict that stays, its keys are texts -/
theorem fk_ (B : Bd X P w K mg base sc N Vs GN k)
    (h : EvD X iter σd Gs (fun d G1 => ∃ (kvs : List (Key × D)) (ks : List Str), d = .dct kvs ∧ kvs.map (·.1) = ks.map Sum.inr ∧ ∃ J : Nat → Sd → Pt → Prop, J 0 σd G1 ∧
      (∀ i x σ' G', ks[i]? = some x → J i σ' G' → TgD X tg (.str x) σ' G' (fun σ2 G2 => SsD X body σ2 G2 ⟨J (i + 1), rt, nx, J (i + 1), ex⟩) ex) ∧ (∀ σ' G', J ks.length σ' G' → nx σ' G')) ex)
    (hf : ∀ x, foldedSetIterable iter X.env x = pure x := by intro _; rfl) : StD X (.For tg iter body [] pos) σd Gs ⟨nx, rt, bk, ct, ex⟩ := by
  refine sfor_ B (it_dct ?_) hf
  intro pn xe E F σ H wh hE ob sl
  refine (h pn xe E F σ H wh hE ob sl).imp fun v H' ⟨d, G', a1, a2, a3, kvs, ks, e1, e2, J, j0, turn, done⟩ => ⟨d, G', a1, a2, a3, kvs, e1, ?_⟩
  have e3 : (kvs.map fun z => keyD z.1) = ks.map D.str := by
    have := congrArg (List.map keyD) e2
    rw [List.map_map, List.map_map] at this
    exact this
  rw [e3]
  refine inv_ (stay := fun _ => True) J j0 (fun i d σ' G' hd hJ => ?_) fun σ' G' hJ => ⟨trivial, done σ' G' (by rw [List.length_map] at hJ; exact hJ)⟩
  obtain ⟨x, hx, rfl⟩ := map_get hd
  exact ⟨trivial, turn i x σ' G' hx hJ⟩
/-! ### C(e, ..), parts handed over -/
structure Tk4 (sp : SpD) (C : Addr) (ds : List Dl.D) (G : Pt) (Q : QD) (R : RX) : Prop where
  go : ∀ q, ∃ Ps Rest, Pick G Ps Rest ∧ sp (.ref q :: ds) ([(q, .ins C [] [])] :: Ps) (fun d Ps' => d = .non ∧ Q (.ref q) (Ps' ++ Rest)) (fun C fs Ps' => R C fs (Ps' ++ Rest))
theorem makeP_ {x : Str} {p : Pos} {C : Addr} {j i n : Nat} {dd : List Dl.D} {sp : SpD} {es : List Expr} (B : Bd X P w K mg base sc N Vs GN k) (c : CalC P w K mg base j x C n dd sp) (hG : At GN i x) (hj : j + 1 ≤ k)
    (h : EvA X (e :: es) σd Gs (fun ds G => (ds ++ dd).length + 1 = n ∧ Tk4 sp C (ds ++ dd) G Q R) R)
    (he : starEach (e :: es) X.env = (false, eval e X.env) :: starEach es X.env := by rfl) (hpl : (backTo pos (starEach es X.env)).any (·.1) = false := by rfl) : EvD X (.Call (.Name x p) (e :: es) [] pos) σd Gs Q R := by
  refine e_make B c hG.get hj ?_ he hpl
  intro pn xe E F σ H wh hE ob sl
  exact (h pn xe E F σ H wh hE ob sl).imp fun vs H' ⟨ds, G, a1, a2, a3, hn, t⟩ => ⟨ds, G, a1, a2, a3, hn, fun q => t.go q⟩
/-! ### [.. for x, y in .. if ..] -/
def F2 (P : Program) (w : World) (K : PySem.W.Frag) (mg : Str → Option Value) (base : Heap) (scb : Scope) (N : List Str) (V' : List Nat) (GN' : List Str) (k : Nat) (cnd : Expr) (j l : Nat) (σd : Sd) (d1 d2 : Dl.D) (t : Bool) (G : Pt) : Prop :=
  ∃ σ1 σ', SetAt σd j (some d1) σ1 ∧ SetAt σ1 l (some d2) σ' ∧ ∀ Y, Bd Y P w K mg base scb N V' GN' k → EvT Y cnd σ' G (fun z G4 => z = t ∧ G4 = G) R0
theorem f2_ {d1 d2 : Dl.D} {t : Bool} {G : Pt} {scb : Scope} {V' : List Nat} {GN' : List Str} {j l : Nat} {σ1 σ' : Sd} (h1 : SetAt σd j (some d1) σ1) (h2 : SetAt σ1 l (some d2) σ') (h : ∀ Y, Bd Y P w K mg base scb N V' GN' k → EvT Y elt σ' G (fun z G4 => z = t ∧ G4 = G) R0) : F2 P w K mg base scb N V' GN' k elt j l σd d1 d2 t G := ⟨σ1, σ', h1, h2, h⟩
theorem lcf2_ {α : Type} (f1 f2 g : α → Dl.D) (pr : α → Bool) {x y : Str} {px py tp : Pos} {kk : Nat} {cnd : Expr} {scope : Scope} {j l : Nat} (own : List (Str × Nat)) (V' : List Nat) (GN' : List Str) (hown : own = [(x, j), (y, l)]) (B : Bd X P w K mg base sc N Vs GN k) (hN : At N j x) (hN2 : At N l y) (hV : V'[j]? = some 2) (hV2 : V'[l]? = some 2) (hjl : j ≠ l) (hb : blkC N sc scope own = true) (hn : blkNC scope sc N V' GN' = true)
    (h : ItE X (.Tuple [.Name x px, .Name y py] kk tp) iter σd Gs (fun ds stay G1 => ∃ l0 : List α, ds = l0.map (fun z => .tup [f1 z, f2 z]) ∧ stay G1 ∧ l0.length ≤ sizeLine ∧ (∀ (i : Nat) (z : α), l0[i]? = some z → F2 P w K mg base (relS scope sc) N V' GN' k cnd j l σd (f1 z) (f2 z) (pr z) G1) ∧ (∀ (i : Nat) (z : α), l0[i]? = some z → pr z = true → E2 P w K mg base (relS scope sc) N V' GN' k elt j l σd (f1 z) (f2 z) (g z) G1) ∧ Q (.lst ((l0.filter pr).map g)) G1) R)
    (hs : ∀ x, foldedSetIterable iter X.env x = pure x := by intro _; rfl) : EvD X (.ListComp elt [⟨.Tuple [.Name x px, .Name y py] kk tp, iter, [cnd], 0⟩] scope pos) σd Gs Q R := by
  subst hown
  refine e_lc B hb hn (ctg_tup B hn hN.get hV (by simp) hN2.get hV2 (by simp)) ?_ hs
  intro pn xe E F σ H wh hE ob sl
  refine semPI_imp (h pn xe E F σ H wh hE ob sl) fun Jt H1 ⟨ds, stay, G1, a1, a2, a3, l0, ed, st, hz, test, turn, q⟩ => ⟨ds, stay, G1, a1, a2, a3, ?_⟩
  subst ed
  obtain ⟨I, i0, it, id⟩ := lci_ (ds := l0.map fun z => D.tup [f1 z, f2 z]) (stay := stay) (G1 := G1) (Q := Q) (T := fun d acc G' A B1 => (∃ a b, d = .tup [a, b]) ∧ ∀ Y, Bd Y P w K mg base (relS scope sc) N V' GN' k → EvT Y cnd (put2 j l (wipeD σd [j, l]) d) G' (fun t G3 => (t = true → ∀ Z, Bd Z P w K mg base (relS scope sc) N V' GN' k → EvD Z elt (put2 j l (wipeD σd [j, l]) d) G3 (fun y G4 => acc.length < sizeLine ∧ A (acc ++ [y]) G4) R0) ∧ (t = false → B1 G3)) R0)
    (fun i acc G => acc = ((l0.take i).filter pr).map g ∧ G = G1) ⟨rfl, rfl⟩ (fun d acc G A A' B0 B' ⟨t1, t2⟩ ha hb => ⟨t1, fun Y BY => EvT.imp (t2 Y BY) fun t G3 ⟨q1, q2⟩ => ⟨fun e Z BZ => EvD.imp (q1 e Z BZ) fun y G4 ⟨z, q⟩ => ⟨z, ha _ _ q⟩, fun e => hb _ (q2 e)⟩⟩) (by
      intro i d acc G' hd ⟨e1, e2⟩
      subst e1 e2
      obtain ⟨z, hz', rfl⟩ := map_get hd
      have hi := (List.getElem?_eq_some_iff.mp hz').1
      have hlen : (((l0.take i).filter pr).map g).length < sizeLine := by
        have := List.length_filter_le pr (l0.take i)
        rw [List.length_map]
        rw [List.length_take] at this
        omega
      refine ⟨st, ⟨_, _, rfl⟩, fun Y BY => ?_⟩
      obtain ⟨σ1, σ', s1, s2, s3⟩ := test i z hz'
      have es : put2 j l (wipeD σd [j, l]) (.tup [f1 z, f2 z]) = σ' := by
        show (((wipeD σd [j, l]).set j _).set l _) = σ'
        rw [wipe2_set hjl, s1.eq, s2.eq]
      rw [es]
      refine EvT.imp (s3 Y BY) fun t G3 ⟨et, eG⟩ => ?_
      subst et eG
      refine ⟨fun hp Z BZ => ?_, fun hp => ⟨?_, rfl⟩⟩
      · obtain ⟨τ1, τ', u1, u2, u3⟩ := turn i z hz' hp
        have et : σ' = τ' := by rw [← s2.eq, ← u2.eq, ← s1.eq, ← u1.eq]
        rw [et]
        refine EvD.imp (u3 Z BZ) fun y G4 ⟨ey, eG⟩ => ?_
        subst ey eG
        exact ⟨hlen, by rw [take_one hz', List.filter_append, List.map_append, List.filter_cons_of_pos hp]; rfl, rfl⟩
      · rw [take_one hz', List.filter_append, List.filter_cons_of_neg (by rw [hp]; exact Bool.false_ne_true)]
        simp) (by
      intro acc G' ⟨e1, e2⟩
      subst e1 e2
      rw [List.length_map, List.take_length]
      exact ⟨st, q⟩)
  refine ⟨I, i0, fun d r acc G' hI => ?_, id⟩
  obtain ⟨hs, t1, t2⟩ := it d r acc G' hI
  exact ⟨hs, t1, fun Y BY => t2 Y BY⟩
end
end Dl
/-! ### tuple(zip(a, b)) -/
namespace Dl
open PySem PySem.Calls PyProof.Rows PySem.Spec
section
variable {prog : Program} {w : World} {A : Around} {E : Value → Shared → Prop} {s : Shared} {z TI TO i1 i2 : Addr} {fp1 fp2 : List Addr} {n1 n2 i : Nat} {P1 P2 : Nat → Value → Prop} {St1 St2 : Nat → Heap → Prop}
/-- the pair that was given out is still there -/
theorem zipH_next_item {T : Addr} {f : Bool} {oT : Obj} {Q : Value → Shared → Prop} (S : ZipSep2 z TI TO i1 i2 fp1 fp2) (D1 : Draws prog w A i1 fp1 n1 P1 St1) (D2 : Draws prog w A i2 fp2 n2 P2 St2)
    (hz : IsZipHeld s.heap z TI TO T f) (hT : s.heap.get? T = some oT) (hTI : IsTupOf2 s.heap TI (.ref i1) (.ref i2)) (st1 : St1 i s.heap) (st2 : St2 i s.heap) (hlt1 : i < n1) (hlt2 : i < n2)
    (hQ : ∀ x1 x2 h' tk, P1 i x1 → P2 i x2 → IsZipHeld h' z TI TO T true → St1 (i + 1) h' → St2 (i + 1) h' → IsTupOf2 h' s.heap.objs.size x1 x2 → h'.objs.size = s.heap.objs.size + 1 →
      (∀ c o, c ≠ z → c ≠ i1 → c ≠ i2 → s.heap.get? c = some o → h'.get? c = some o) → Q (.ref s.heap.objs.size) { s with heap := h', toks := tk }) :
    wpAny (model prog w) A (Builtin.«zip.__next__» ⟨[.ref z], []⟩) (fun fin s' => ∃ v, fin = .done (.ret v) ∧ Q v s') E s := by
  obtain ⟨hp, g, d, tk0, os⟩ := s
  show wpAny _ _ (field (.ref z) 2 >>= _) _ _ _
  refine wpAny_bind (wpAny_field hz rfl (x := .bool false) rfl ?_)
  show wpAny _ _ (field (.ref z) 3 >>= _) _ _ _
  refine wpAny_bind (wpAny_field hz rfl (x := .ref TI) rfl ?_)
  refine wpAny_bind (wpAny_seqItems hTI rfl ?_)
  show wpAny _ _ (Builtin.SmallTypes.ownedTupleIsFree (.ref z) >>= _) _ _ _
  refine wpAny_bind (wpAny_tupleHeld_zip hz hT fun g0 hz0 hs0 => ?_)
  simp only [Bool.false_eq_true, if_false]
  refine wpAny_bind ?_
  rw [← Array.forIn_toList]
  simp only [List.forIn_cons, List.forIn_nil]
  refine wpAny_bind (wpAny_bind (wpAny_holding ?_))
  replace hs0 : Heap.SameBut z hp g0 := hs0
  show wpAny _ _ (Builtin.SmallTypes.nextOf (.ref i1) >>= _) _ _ ⟨g0, g, d, tk0, os⟩
  refine wpAny_bind (D1.item i _ _ _ hlt1 (D1.over st1 hs0 S.zf1) fun x1 p1 tk1 hx1 sn1 hp1 => wpAny_pure ?_)
  replace hp1 : Heap.SameBut i1 g0 p1 := hp1
  refine wpAny_pure ?_
  refine wpAny_bind (wpAny_bind (wpAny_holding ?_))
  show wpAny _ _ (Builtin.SmallTypes.nextOf (.ref i2) >>= _) _ _ ⟨p1, g, d, tk1, os⟩
  refine wpAny_bind (D2.item i _ _ _ hlt2 (D2.over (D2.over st2 hs0 S.zf2) hp1 S.sep1_2) fun x2 p2 tk2 hx2 sn2 hp2 => wpAny_pure ?_)
  replace hp2 : Heap.SameBut i2 p1 p2 := hp2
  refine wpAny_pure (wpAny_pure ?_)
  show wpAny _ _ (newTuple [x1, x2] >>= _) _ _ _
  refine wpAny_bind (wpAny_newTuple ?_)
  have hsz : p2.objs.size = hp.objs.size := by rw [hp2.1, hp1.1, hs0.1]
  have hz₃ : IsZipHeld p2 z TI TO T true := hp2.extBut _ _ S.zi2 (hp1.extBut _ _ S.zi1 hz0)
  have hk : ∀ c o, c ≠ z → c ≠ i1 → c ≠ i2 → hp.get? c = some o → p2.get? c = some o := fun c o c1 c2 c3 e => hp2.extBut _ _ c3 (hp1.extBut _ _ c2 (hs0.extBut _ _ c1 e))
  have h1₃ : St1 (i + 1) p2 := D1.over sn1 hp2 S.sep2_1
  refine wpAny_pure ⟨_, rfl, ?_⟩
  show Q (.ref p2.objs.size) _
  have hpp : IsTupOf2 (p2.push { cls := .type "tuple", data := .seq #[x1, x2] }) p2.objs.size x1 x2 := Heap.get?_push_size _ rfl
  have hz4 : (p2.push { cls := .type "tuple", data := .seq #[x1, x2] }).objs.size = p2.objs.size + 1 := Heap.size_push ..
  rw [hsz] at hpp hz4 ⊢
  exact hQ x1 x2 _ tk2 hx1 hx2 (Heap.get?_push_of_some _ hz₃) (D1.frame _ _ _ h1₃ fun b hb o e => Heap.get?_push_of_some _ e) (D2.frame _ _ _ sn2 fun b hb o e => Heap.get?_push_of_some _ e) hpp hz4 fun c o c1 c2 c3 e => Heap.get?_push_of_some _ (hk c o c1 c2 c3 e)
theorem zipH_next_end {T : Addr} {f : Bool} {oT : Obj} {Q : PySem.Fin → Shared → Prop} (S : ZipSep2 z TI TO i1 i2 fp1 fp2) (D1 : Draws prog w A i1 fp1 n1 P1 St1) (D2 : Draws prog w A i2 fp2 n2 P2 St2)
    (hz : IsZipHeld s.heap z TI TO T f) (hT : s.heap.get? T = some oT) (hTI : IsTupOf2 s.heap TI (.ref i1) (.ref i2)) (st1 : St1 i s.heap) (hi : i = n1)
    (hE : ∀ h' tk e, (∀ c o, c ≠ z → c ≠ i1 → c ≠ i2 → s.heap.get? c = some o → h'.get? c = some o) → (∃ o, h'.get? e = some o ∧ o.cls = .type "StopIteration") → E (.ref e) { s with heap := h', toks := tk }) :
    wpAny (model prog w) A (Builtin.«zip.__next__» ⟨[.ref z], []⟩) Q E s := by
  obtain ⟨hp, g, d, tk0, os⟩ := s
  show wpAny _ _ (field (.ref z) 2 >>= _) _ _ _
  refine wpAny_bind (wpAny_field hz rfl (x := .bool false) rfl ?_)
  show wpAny _ _ (field (.ref z) 3 >>= _) _ _ _
  refine wpAny_bind (wpAny_field hz rfl (x := .ref TI) rfl ?_)
  refine wpAny_bind (wpAny_seqItems hTI rfl ?_)
  show wpAny _ _ (Builtin.SmallTypes.ownedTupleIsFree (.ref z) >>= _) _ _ _
  refine wpAny_bind (wpAny_tupleHeld_zip hz hT fun g0 hz0 hs0 => ?_)
  simp only [Bool.false_eq_true, if_false]
  refine wpAny_bind ?_
  rw [← Array.forIn_toList]
  simp only [List.forIn_cons, List.forIn_nil]
  refine wpAny_bind (wpAny_bind (wpAny_holding ?_))
  replace hs0 : Heap.SameBut z hp g0 := hs0
  show wpAny _ _ (Builtin.SmallTypes.nextOf (.ref i1) >>= _) _ _ ⟨g0, g, d, tk0, os⟩
  subst hi
  refine wpAny_bind (D1.done ⟨g0, g, d, tk0, os⟩ _ _ (D1.over st1 hs0 S.zf1) fun q e hq he => ?_)
  replace hq : Heap.ExtBut i1 g0 q := hq
  exact hE q tk0 e (fun c o c1 c2 _ x => hq _ _ c2 (hs0.extBut _ _ c1 x)) he
theorem pyNext_zipH_item {T : Addr} {f : Bool} {oT : Obj} {Q : Option Value → Shared → Prop} (S : ZipSep2 z TI TO i1 i2 fp1 fp2) (D1 : Draws prog w A.in1 i1 fp1 n1 P1 St1) (D2 : Draws prog w A.in1 i2 fp2 n2 P2 St2)
    (hz : IsZipHeld s.heap z TI TO T f) (hT : s.heap.get? T = some oT) (hTI : IsTupOf2 s.heap TI (.ref i1) (.ref i2)) (st1 : St1 i s.heap) (st2 : St2 i s.heap) (hlt1 : i < n1) (hlt2 : i < n2)
    (hQ : ∀ x1 x2 h' tk, P1 i x1 → P2 i x2 → IsZipHeld h' z TI TO T true → St1 (i + 1) h' → St2 (i + 1) h' → IsTupOf2 h' s.heap.objs.size x1 x2 → h'.objs.size = s.heap.objs.size + 1 →
      (∀ c o, c ≠ z → c ≠ i1 → c ≠ i2 → s.heap.get? c = some o → h'.get? c = some o) → Q (some (.ref s.heap.objs.size)) { s with heap := h', toks := tk }) :
    wpAny (model prog w) A (pyNext (.ref z)) Q E s := by
  have hTy : s.TypeIs (.ref z) "zip" := ⟨_, hz, rfl⟩
  unfold pyNext
  exact wpAny_bind (wpAny_attempt (wpAny_callSpecial?_slot (name := Str.ofString "__next__") hTy F.slot_zip_next
    (wpAny_call_entry F.slot_zip_next hTy F.entry_zip_next
      (zipH_next_item S D1 D2 hz hT hTI st1 st2 hlt1 hlt2 fun x1 x2 h' tk y1 y2 a1 a2 a3 a4 a5 a6 => wpAny_pure (hQ x1 x2 h' tk y1 y2 a1 a2 a3 a4 a5 a6)) (F.args_zip_next_1 _))))
theorem pyNext_zipH_end {T : Addr} {f : Bool} {oT : Obj} {Q : Option Value → Shared → Prop} (S : ZipSep2 z TI TO i1 i2 fp1 fp2) (D1 : Draws prog w A.in1 i1 fp1 n1 P1 St1) (D2 : Draws prog w A.in1 i2 fp2 n2 P2 St2)
    (hz : IsZipHeld s.heap z TI TO T f) (hT : s.heap.get? T = some oT) (hTI : IsTupOf2 s.heap TI (.ref i1) (.ref i2)) (st1 : St1 i s.heap) (hi : i = n1)
    (hQ : ∀ h' tk, (∀ c o, c ≠ z → c ≠ i1 → c ≠ i2 → s.heap.get? c = some o → h'.get? c = some o) → Q none { s with heap := h', toks := tk }) : wpAny (model prog w) A (pyNext (.ref z)) Q E s := by
  have hTy : s.TypeIs (.ref z) "zip" := ⟨_, hz, rfl⟩
  unfold pyNext
  refine wpAny_bind (wpAny_attempt (wpAny_callSpecial?_slot (name := Str.ofString "__next__") hTy F.slot_zip_next
    (wpAny_call_entry F.slot_zip_next hTy F.entry_zip_next (zipH_next_end S D1 D2 hz hT hTI st1 hi fun h' tk e hk he => ?_) (F.args_zip_next_1 _))))
  obtain ⟨o, ho, hc⟩ := he
  refine wpAny_bind (wpAny_isInstance (T := "StopIteration") (b := true) ⟨o, ho, hc⟩ isSubtype_stop ?_)
  exact wpAny_pure (hQ _ _ hk)
/-- how far the zip is: nothing was given out, or the last pair is kept at T -/
def ZSt (h : Heap) (z TI TO S : Addr) (i : Nat) : Prop :=
  (i = 0 ∧ IsZip h z TI TO .none ∧ ∃ a1 a2, IsTupOf2 h TO a1 a2) ∨ ∃ T f oT, IsZipHeld h z TI TO T f ∧ h.get? T = some oT ∧ S < T
theorem zst_item {S0 : Addr} {n : Nat} {Q : Option Value → Shared → Prop} (S : ZipSep2 z TI TO i1 i2 fp1 fp2) (D1 : Draws prog w A.in1 i1 fp1 n P1 St1) (D2 : Draws prog w A.in1 i2 fp2 n P2 St2)
    (hst : ZSt s.heap z TI TO S0 i) (hS0 : S0 < s.heap.objs.size) (hzS : z < S0) (hi1S : i1 < S0) (hi2S : i2 < S0) (hTI : IsTupOf2 s.heap TI (.ref i1) (.ref i2)) (st1 : St1 i s.heap) (st2 : St2 i s.heap) (hlt : i < n)
    (hQ : ∀ x1 x2 h' tk, P1 i x1 → P2 i x2 → ZSt h' z TI TO S0 (i + 1) → St1 (i + 1) h' → St2 (i + 1) h' → IsTupOf2 h' s.heap.objs.size x1 x2 → h'.objs.size = s.heap.objs.size + 1 →
      (∀ c o, c ≠ z → c ≠ TO → c ≠ i1 → c ≠ i2 → s.heap.get? c = some o → h'.get? c = some o) → Q (some (.ref s.heap.objs.size)) { s with heap := h', toks := tk }) :
    wpAny (model prog w) A (pyNext (.ref z)) Q E s := by
  rcases hst with ⟨rfl, hz, a1, a2, hTO⟩ | ⟨T, f, oT, hz, hT, hTS⟩
  · refine wpAny_pyNext_zipD2_item S D1 D2 hz hTI hTO st1 st2 hlt hlt fun x1 x2 h' tk y1 y2 b1 b2 d1 d2 b5 b6 b7 => hQ x1 x2 h' tk y1 y2 (.inr ⟨s.heap.objs.size, false, _, b1, b5, hS0⟩) d1 d2 b5 b6 b7
  · refine pyNext_zipH_item S D1 D2 hz hT hTI st1 st2 hlt hlt fun x1 x2 h' tk y1 y2 b1 d1 d2 b5 b6 b7 => hQ x1 x2 h' tk y1 y2 (.inr ⟨T, true, _, b1, b7 T oT ?_ ?_ ?_ hT, hTS⟩) d1 d2 b5 b6 fun c o c1 _ c2 c3 e => b7 c o c1 c2 c3 e
    · exact Nat.ne_of_gt (Nat.lt_trans hzS hTS)
    · exact Nat.ne_of_gt (Nat.lt_trans hi1S hTS)
    · exact Nat.ne_of_gt (Nat.lt_trans hi2S hTS)
theorem zst_done {S0 : Addr} {n : Nat} {Q : Option Value → Shared → Prop} (S : ZipSep2 z TI TO i1 i2 fp1 fp2) (D1 : Draws prog w A.in1 i1 fp1 n P1 St1) (D2 : Draws prog w A.in1 i2 fp2 n P2 St2)
    (hst : ZSt s.heap z TI TO S0 i) (hTI : IsTupOf2 s.heap TI (.ref i1) (.ref i2)) (st1 : St1 i s.heap) (st2 : St2 i s.heap) (hi : i = n)
    (hQ : ∀ h' tk, (∀ c o, c ≠ z → c ≠ TO → c ≠ i1 → c ≠ i2 → s.heap.get? c = some o → h'.get? c = some o) → Q none { s with heap := h', toks := tk }) : wpAny (model prog w) A (pyNext (.ref z)) Q E s := by
  rcases hst with ⟨h0, hz, a1, a2, hTO⟩ | ⟨T, f, oT, hz, hT, hTS⟩
  · exact wpAny_pyNext_zipD2_end S D1 D2 hz hTI hTO st1 st2 (by omega) (by omega) (.inl hi) fun h' tk b7 => hQ h' tk b7
  · exact pyNext_zipH_end S D1 D2 hz hT hTI st1 hi fun h' tk b7 => hQ h' tk fun c o c1 _ c2 c3 e => b7 c o c1 c2 c3 e
structure TzG (P1 P2 : Nat → Value → Prop) (lo : Addr) (h : Heap) (as : List Addr) : Prop where
  rise : as.Pairwise (· < ·)
  above : ∀ a ∈ as, lo < a
  pairs : ∀ (j : Nat) (a : Addr), as[j]? = some a → ∃ x1 x2, P1 j x1 ∧ P2 j x2 ∧ IsTupOf2 h a x1 x2
theorem TzG.there {lo : Addr} {h : Heap} {as : List Addr} (g : TzG P1 P2 lo h as) {a : Addr} (ha : a ∈ as) : a < h.objs.size := by
  obtain ⟨j, hj⟩ := List.mem_iff_getElem?.mp ha
  obtain ⟨_, _, _, _, e⟩ := g.pairs j a hj
  exact Heap.lt_size e
theorem tz_loop {R : Result → Shared → Prop} {S0 : Addr} {n : Nat} (S : ZipSep2 z TI TO i1 i2 fp1 fp2) (D1 : Draws prog w A.in1.in1 i1 fp1 n P1 St1) (D2 : Draws prog w A.in1.in1 i2 fp2 n P2 St2)
    (hzS : z < S0) (hi1S : i1 < S0) (hi2S : i2 < S0) (hTIS : TI < S0) (hTOS : TO < S0) (hf1 : S0 ∉ fp1) (hf2 : S0 ∉ fp2) (hn : n ≤ sizeLine) (res : Value) {h₁ : Heap}
    (hR : ∀ h' tk acc c as, (∀ b o, b ≠ S0 → b ≠ z → b ≠ TO → b ≠ i1 → b ≠ i2 → h₁.get? b = some o → h'.get? b = some o) → h'.get? S0 = some { cls := .type "list", dict := none, data := .seq acc c, slots := #[] } → as.length = n → TzG P1 P2 S0 h' as →
      acc.toList = as.map Value.ref → R (.ok (.ret res)) { s with heap := h', toks := tk }) :
    ∀ (k i : Nat) (h : Heap) (tk c : Nat) (acc : Array Value) (as : List Addr), n - i = k → i ≤ n → ZSt h z TI TO S0 i → IsTupOf2 h TI (.ref i1) (.ref i2) → St1 i h → St2 i h → (∀ b o, b ≠ S0 → b ≠ z → b ≠ TO → b ≠ i1 → b ≠ i2 → h₁.get? b = some o → h.get? b = some o) →
      h.get? S0 = some { cls := .type "list", dict := none, data := .seq acc c, slots := #[] } → acc.toList = as.map Value.ref → as.length = i → TzG P1 P2 S0 h as →
      codeAny (model prog w) A (.builtin "list.extend.loop" ⟨[.ref S0, .ref z, res], []⟩) R { s with heap := h, toks := tk } := by
  intro k
  induction k with
  | zero =>
    intro i h tk c acc as hk hi hst hTI st1 st2 hkeep hS hacc hal hG
    have hin : i = n := by omega
    refine codeAny_builtin PySem.F.entry_extend_loop ?_
    rw [Around.under_plainId PySem.F.plain_extend_loop _]
    show wpAny _ A.in1 (pyNext (.ref z) >>= _) _ _ _
    refine wpAny_bind (zst_done (s := { s with heap := h, toks := tk }) (A := A.in1) S D1 D2 hst hTI st1 st2 hin fun h' tk' he => ?_)
    have nS : ∀ {b : Addr}, b < S0 → S0 ≠ b := fun hb => Nat.ne_of_gt hb
    refine wpAny_pure (hR h' tk' acc c as (fun b o h1 h2 h3 h4 h5 e => he b o h2 h3 h4 h5 (hkeep b o h1 h2 h3 h4 h5 e)) (he S0 _ (nS hzS) (nS hTOS) (nS hi1S) (nS hi2S) hS) (by omega) ⟨hG.rise, hG.above, fun j a hj => ?_⟩ hacc)
    obtain ⟨x1, x2, e1, e2, e3⟩ := hG.pairs j a hj
    have ha := hG.above a (List.mem_of_getElem? hj)
    exact ⟨x1, x2, e1, e2, he a _ (Nat.ne_of_gt (Nat.lt_trans hzS ha)) (Nat.ne_of_gt (Nat.lt_trans hTOS ha)) (Nat.ne_of_gt (Nat.lt_trans hi1S ha)) (Nat.ne_of_gt (Nat.lt_trans hi2S ha)) e3⟩
  | succ k ih =>
    intro i h tk c acc as hk hi hst hTI st1 st2 hkeep hS hacc hal hG
    have hlt : i < n := by omega
    have hsz : acc.size = i := by rw [← Array.length_toList, hacc, List.length_map, hal]
    refine codeAny_builtin PySem.F.entry_extend_loop ?_
    rw [Around.under_plainId PySem.F.plain_extend_loop _]
    show wpAny _ A.in1 (pyNext (.ref z) >>= _) _ _ _
    refine wpAny_bind (zst_item (s := { s with heap := h, toks := tk }) (A := A.in1) S D1 D2 hst (Heap.lt_size hS) hzS hi1S hi2S hTI st1 st2 hlt fun x1 x2 h' tk' y1 y2 hst' d1 d2 ht hz hkp => ?_)
    dsimp only at ht hz hkp ⊢
    have nS : ∀ {b : Addr}, b < S0 → S0 ≠ b := fun hb => Nat.ne_of_gt hb
    have hS' := hkp S0 _ (nS hzS) (nS hTOS) (nS hi1S) (nS hi2S) hS
    have up : ∀ b o, b ≠ S0 → h'.get? b = some o → (h'.update S0 (Obj.mapSeq (·.push (Value.ref h.objs.size)))).get? b = some o := fun b o hb e => (Heap.get?_update_other _ _ (Ne.symm hb)).trans e
    have hSl : S0 < h.objs.size := Heap.lt_size hS
    have hTI' : IsTupOf2 h' TI (.ref i1) (.ref i2) := hkp TI _ S.TIz S.TITO S.TIi1 S.TIi2 hTI
    show wpAny _ A.in1 (updateSeq S0 (·.push (Value.ref h.objs.size)) >>= _) _ _ _
    refine wpAny_bind ?_
    refine wpAny_updateSeq hS' rfl (wpAny_pure ⟨plainId_quiet PySem.F.plain_extend_loop _, ih (i + 1) _ tk' _ (acc.push (Value.ref h.objs.size)) (as ++ [h.objs.size]) (by omega) hlt ?_ (up _ _ (Ne.symm (nS hTIS)) hTI') ?_ ?_
      (fun b o h1 h2 h3 h4 h5 e => up b o h1 (hkp b o h2 h3 h4 h5 (hkeep b o h1 h2 h3 h4 h5 e))) (Heap.get?_update_self _ hS' rfl) (by rw [Array.toList_push, hacc, List.map_append]; rfl) (by rw [List.length_append, hal]; rfl) ⟨?_, ?_, ?_⟩⟩) (by rw [hsz]; omega) (by show (acc.push (Value.ref h.objs.size)).size ≤ sizeLine + 1; rw [Array.size_push, hsz]; omega)
    · rcases hst' with ⟨h0, _⟩ | ⟨T, f, oT, q1, q2, q3⟩
      · cases h0
      · exact .inr ⟨T, f, oT, up _ _ (Ne.symm (nS hzS)) q1, up _ _ (Nat.ne_of_gt q3) q2, q3⟩
    · exact D1.frame _ _ _ d1 fun b hb o e => up b o (fun q => hf1 (q ▸ hb)) e
    · exact D2.frame _ _ _ d2 fun b hb o e => up b o (fun q => hf2 (q ▸ hb)) e
    · refine List.pairwise_append.mpr ⟨hG.rise, List.pairwise_singleton _ _, fun a ha b hb => ?_⟩
      rw [List.mem_singleton.mp hb]
      exact hG.there ha
    · intro a ha
      rcases List.mem_append.mp ha with ha | ha
      · exact hG.above a ha
      · rw [List.mem_singleton.mp ha]; exact hSl
    · intro j b hj
      rcases Nat.lt_trichotomy j as.length with h1 | h1 | h1
      · rw [List.getElem?_append_left h1] at hj
        obtain ⟨u1, u2, e1, e2, e3⟩ := hG.pairs j b hj
        have hb := hG.above b (List.mem_of_getElem? hj)
        exact ⟨u1, u2, e1, e2, up b _ (Nat.ne_of_gt hb) (hkp b _ (Nat.ne_of_gt (Nat.lt_trans hzS hb)) (Nat.ne_of_gt (Nat.lt_trans hTOS hb)) (Nat.ne_of_gt (Nat.lt_trans hi1S hb)) (Nat.ne_of_gt (Nat.lt_trans hi2S hb)) e3)⟩
      · subst h1
        have hb : h.objs.size = b := by simpa using hj
        subst hb
        subst hal
        exact ⟨x1, x2, y1, y2, up _ _ (Nat.ne_of_gt hSl) ht⟩
      · have hnone : (as ++ [h.objs.size])[j]? = none := List.getElem?_eq_none (by rw [List.length_append, List.length_singleton]; omega)
        rw [hnone] at hj; cases hj
theorem nolen_zip : typeLookup (.type "zip") "__len__" = pure none := by rw [typeLookup_type, builtinLookup_eq_fast]; kernel_rfl
theorem nohint_zip : typeLookup (.type "zip") "__length_hint__" = pure none := by rw [typeLookup_type, builtinLookup_eq_fast]; kernel_rfl
theorem tz_extend {R : Result → Shared → Prop} {S0 : Addr} {n : Nat} (S : ZipSep2 z TI TO i1 i2 fp1 fp2) (D1 : Draws prog w A.in1.in1 i1 fp1 n P1 St1) (D2 : Draws prog w A.in1.in1 i2 fp2 n P2 St2)
    (hzS : z < S0) (hi1S : i1 < S0) (hi2S : i2 < S0) (hTIS : TI < S0) (hTOS : TO < S0) (hf1 : S0 ∉ fp1) (hf2 : S0 ∉ fp2) (hn : n ≤ sizeLine) (res : Value)
    (hz : IsZip s.heap z TI TO .none) (hTI : IsTupOf2 s.heap TI (.ref i1) (.ref i2)) (hTO : ∃ a1 a2, IsTupOf2 s.heap TO a1 a2) (st1 : St1 0 s.heap) (st2 : St2 0 s.heap) (c₀ : Nat) (hS : s.heap.get? S0 = some { cls := .type "list", data := .seq #[] c₀ })
    (hR : ∀ h' tk acc c as, (∀ b o, b ≠ S0 → b ≠ z → b ≠ TO → b ≠ i1 → b ≠ i2 → s.heap.get? b = some o → h'.get? b = some o) → h'.get? S0 = some { cls := .type "list", dict := none, data := .seq acc c, slots := #[] } → as.length = n → TzG P1 P2 S0 h' as →
      acc.toList = as.map Value.ref → R (.ok (.ret res)) { s with heap := h', toks := tk }) :
    wpAny (model prog w) A.in1 (Builtin.List.listExtendWith (.ref S0) (.ref z) res)
      (fun fin s' => match fin with | .done f => R (.ok f) s' | .again c' => c'.quiet = true ∧ codeAny (model prog w) A c' R s') (fun e s' => R (.error e) s') s := by
  have hT : s.TypeIs (.ref z) "zip" := ⟨_, hz, rfl⟩
  have nS : ∀ {b : Addr}, b < S0 → b ≠ S0 := fun hb => Nat.ne_of_lt hb
  have key : ∀ (h : Heap) (c₁ tk : Nat), (∀ b o, b ≠ S0 → s.heap.get? b = some o → h.get? b = some o) → h.get? S0 = some { cls := .type "list", data := .seq #[] c₁ } →
      codeAny (model prog w) A (.builtin "list.extend.loop" ⟨[.ref S0, .ref z, res], []⟩) R { s with heap := h, toks := tk } := by
    intro h c₁ tk hk hS₁
    obtain ⟨a1, a2, hTO⟩ := hTO
    exact tz_loop (s := s) (h₁ := s.heap) S D1 D2 hzS hi1S hi2S hTIS hTOS hf1 hf2 hn res hR n 0 h tk c₁ #[] [] (Nat.sub_zero _) (Nat.zero_le _) (.inl ⟨rfl, hk z _ (nS hzS) hz, a1, a2, hk TO _ (nS hTOS) hTO⟩) (hk TI _ (nS hTIS) hTI)
      (D1.frame _ _ _ st1 fun b hb o e => hk b o (fun q => hf1 (q ▸ hb)) e) (D2.frame _ _ _ st2 fun b hb o e => hk b o (fun q => hf2 (q ▸ hb)) e) (fun b o h1 _ _ _ _ e => hk b o h1 e) hS₁ rfl rfl ⟨List.Pairwise.nil, (fun _ ha => nomatch ha), (fun j a hj => by simp at hj)⟩
  unfold Builtin.List.listExtendWith
  refine wpAny_bind (wpAny_typeOf (T := "zip") hT ?_)
  have h1 : Builtin.List.listSameRef (.ref S0) (.ref z) = false := by simp [Builtin.List.listSameRef, Nat.ne_of_gt hzS]
  have h2 : (Value.type "zip" == Value.type "list") = false := by decide
  have h3 : (Value.type "zip" == Value.type "tuple") = false := by decide
  simp only [h1, h2, h3, Bool.or_false, Bool.false_eq_true, if_false]
  refine wpAny_bind (wpAny_pyIter_zip hz ?_)
  refine wpAny_bind (wpAny_holding ?_)
  unfold Builtin.List.listLengthHint
  refine wpAny_bind (wpAny_specialOf hT nolen_zip ?_)
  show wpAny _ A.in1 (specialOf (Value.ref z) (Str.ofString "__length_hint__") >>= _) _ _ _
  refine wpAny_bind (wpAny_specialOf hT nohint_zip ?_)
  refine wpAny_pure ?_
  rw [if_pos (by rfl)]
  refine wpAny_bind (wpAny_rule ?_)
  refine wpAny_bind ?_
  show wpAny _ _ (updateSeq S0 (·.push .none) >>= fun _ => updateSeq S0 (·.pop)) _ _ _
  refine wpAny_bind (wpAny_updateSeq hS rfl ?_)
  have hS₂ := Heap.get?_update_self (Obj.mapSeq (·.push Value.none)) hS rfl
  refine wpAny_updateSeq (hz := by seq_fits) hS₂ rfl ?_
  have hS₃ := Heap.get?_update_self (Obj.mapSeq (·.pop)) hS₂ rfl
  refine wpAny_pure ⟨plainId_quiet PySem.F.plain_extend_loop _, key _ _ _ (fun b o hb e => ?_) hS₃⟩
  exact (Heap.get?_update_other _ _ (Ne.symm hb)).trans ((Heap.get?_update_other _ _ (Ne.symm hb)).trans e)
theorem tz_collect {R : List Value → Shared → Prop} {n : Nat} (S : ZipSep2 z TI TO i1 i2 fp1 fp2) (D1 : Draws prog w A.in1.in1 i1 fp1 n P1 St1) (D2 : Draws prog w A.in1.in1 i2 fp2 n P2 St2)
    (hlt : ∀ b, b = z ∨ b = TI ∨ b = TO ∨ b ∈ fp1 ∨ b ∈ fp2 → b < s.heap.objs.size) (hn : n ≤ sizeLine)
    (hz : IsZip s.heap z TI TO .none) (hTI : IsTupOf2 s.heap TI (.ref i1) (.ref i2)) (hTO : ∃ a1 a2, IsTupOf2 s.heap TO a1 a2) (st1 : St1 0 s.heap) (st2 : St2 0 s.heap)
    (h : ∀ (h' : Heap) (tk : Nat) (as : List Addr), (∀ b o, b ≠ z → b ≠ TO → b ≠ i1 → b ≠ i2 → s.heap.get? b = some o → h'.get? b = some o) → as.length = n → TzG P1 P2 s.heap.objs.size h' as → R (as.map Value.ref) { s with heap := h', toks := tk }) :
    wpAny (model prog w) A (collect (.ref z)) R E s := by
  unfold collect
  refine wpAny_bind (wpAny_runValue (codeAny_builtin PySem.F.entry_proto_collect ?_))
  rw [Around.under_plainId PySem.F.plain_proto_collect _]
  show wpAny _ A.in1 (newList [] >>= fun l => again (.builtin "list.__iadd__" ⟨[l, .ref z], []⟩)) _ _ s
  refine wpAny_bind (wpAny_newObj_type ?_)
  refine wpAny_pure ⟨plainId_quiet PySem.F.plain_list_iadd _, codeAny_builtin PySem.F.entry_list_iadd ?_⟩
  rw [Around.under_plainId PySem.F.plain_list_iadd _]
  have hS₁ : (s.heap.push { cls := .type "list", data := .seq ([] : List Value).toArray }).get? s.heap.objs.size = some { cls := .type "list", data := .seq #[] } := Heap.get?_push_size _ rfl
  show wpAny _ A.in1 (Builtin.List.listExtendWith (.ref s.heap.objs.size) (.ref z) (.ref s.heap.objs.size)) _ _ _
  have up : ∀ b o, s.heap.get? b = some o → (s.heap.push { cls := .type "list", data := .seq ([] : List Value).toArray }).get? b = some o := fun b o e => Heap.get?_push_of_some _ e
  obtain ⟨a1, a2, hTO⟩ := hTO
  have key := tz_extend (prog := prog) (w := w) (A := A) (s := { s with heap := s.heap.push { cls := .type "list", data := .seq ([] : List Value).toArray } }) (S0 := s.heap.objs.size)
    (R := fun (q : Result) (s' : Shared) => ∃ (h' : Heap) (tk : Nat) (acc' : Array Value) (c' : Nat) (as : List Addr), q = .ok (.ret (.ref s.heap.objs.size)) ∧ s' = { s with heap := h', toks := tk } ∧
      (∀ b o, b ≠ z → b ≠ TO → b ≠ i1 → b ≠ i2 → s.heap.get? b = some o → h'.get? b = some o) ∧ h'.get? s.heap.objs.size = some { cls := .type "list", dict := none, data := .seq acc' c', slots := #[] } ∧ as.length = n ∧ TzG P1 P2 s.heap.objs.size h' as ∧ acc'.toList = as.map Value.ref)
    S D1 D2 (hlt z (.inl rfl)) (hlt i1 (.inr (.inr (.inr (.inl S.mem1))))) (hlt i2 (.inr (.inr (.inr (.inr S.mem2))))) (hlt TI (.inr (.inl rfl))) (hlt TO (.inr (.inr (.inl rfl)))) (fun q => Nat.lt_irrefl _ (hlt _ (.inr (.inr (.inr (.inl q)))))) (fun q => Nat.lt_irrefl _ (hlt _ (.inr (.inr (.inr (.inr q)))))) hn (.ref s.heap.objs.size)
    (up _ _ hz) (up _ _ hTI) ⟨a1, a2, up _ _ hTO⟩ (D1.frame _ _ _ st1 fun b _ o e => up b o e) (D2.frame _ _ _ st2 fun b _ o e => up b o e) 0 hS₁
    (fun h' tk acc' c' as hk hS' hl hG hacc => ⟨h', tk, acc', c', as, rfl, rfl, fun b o h2 h3 h4 h5 e => hk b o (Nat.ne_of_lt (Heap.lt_size e)) h2 h3 h4 h5 (up b o e), hS', hl, hG, hacc⟩)
  refine wpAny_mono key (fun fin s' x => ?_) fun e s' x => ?_
  · cases fin with
    | done f =>
      obtain ⟨h', tk, acc', c', as, e, rfl, hk, hS', hl, hG, hacc⟩ := x
      cases e
      show wpAny _ A (load s.heap.objs.size >>= _) _ _ _
      refine wpAny_bind (wpAny_load hS' ?_)
      refine wpAny_pure ?_
      show R acc'.toList _
      rw [hacc]
      exact h h' tk as hk hl hG
    | again c₁ =>
      refine ⟨x.1, codeAny_mono x.2 fun q s₂ y => ?_⟩
      obtain ⟨h', tk, acc', c', as, rfl, rfl, hk, hS', hl, hG, hacc⟩ := y
      show wpAny _ A (load s.heap.objs.size >>= _) _ _ _
      refine wpAny_bind (wpAny_load hS' ?_)
      refine wpAny_pure ?_
      show R acc'.toList _
      rw [hacc]
      exact h h' tk as hk hl hG
  · obtain ⟨_, _, _, _, _, e', _⟩ := x
    cases e'
theorem tz_new {Q₁ : Value → Shared → Prop} {n : Nat} (S : ZipSep2 z TI TO i1 i2 fp1 fp2) (D1 : Draws prog w A.in1.in1.in1 i1 fp1 n P1 St1) (D2 : Draws prog w A.in1.in1.in1 i2 fp2 n P2 St2)
    (hlt : ∀ b, b = z ∨ b = TI ∨ b = TO ∨ b ∈ fp1 ∨ b ∈ fp2 → b < s.heap.objs.size) (hn : n ≤ sizeLine)
    (hz : IsZip s.heap z TI TO .none) (hTI : IsTupOf2 s.heap TI (.ref i1) (.ref i2)) (hTO : ∃ a1 a2, IsTupOf2 s.heap TO a1 a2) (st1 : St1 0 s.heap) (st2 : St2 0 s.heap)
    (h : ∀ (h' : Heap) (tk : Nat) (as : List Addr), (∀ b o, b ≠ z → b ≠ TO → b ≠ i1 → b ≠ i2 → s.heap.get? b = some o → h'.get? b = some o) → as.length = n → TzG P1 P2 s.heap.objs.size h' as →
      Q₁ (.ref h'.objs.size) { s with heap := h'.push { cls := .type "tuple", data := .seq (as.map Value.ref).toArray }, toks := tk }) :
    codeAny (model prog w) A (.call (.builtin "tuple.__new__") ⟨[.type "tuple", .ref z], []⟩) (wants Q₁ E) s := by
  refine codeAny_of_tree ?_
  show wpAny _ A.in1 (do checkBuiltinCall "tuple.__new__" ⟨[.type "tuple", .ref z], []⟩; again (.builtin "tuple.__new__" ⟨[.type "tuple", .ref z], []⟩)) _ _ s
  refine wpAny_bind (wpAny_of_eq (F.newCall_tuple_1 _) (wpAny_pure ⟨plainId_quiet F.plain_tuple_new _, codeAny_builtin F.entry_tuple_new ?_⟩))
  rw [Around.under_plainId F.plain_tuple_new _]
  have hsub := sub_tuple_self
  have hinit := init_tuple_lookup
  have hmh := madeHere_tuple
  have hTI0 : s.TypeIs (.ref z) "zip" := ⟨_, hz, rfl⟩
  wp_walk using wpAny_typeOf hTI0, tz_collect (A := A.in1) S D1 D2 hlt hn hz hTI hTO st1 st2
  intro h' tk as hk hl hG
  show wpAny _ _ (Builtin.Tuple.tupleExact (as.map Value.ref).toArray >>= fun v => ret v) _ _ _
  unfold Builtin.Tuple.tupleExact
  refine wpAny_bind (wpAny_newObj_type ?_ (by show (as.map Value.ref).toArray.size ≤ sizeLine; rw [List.size_toArray, List.length_map, hl]; exact hn))
  refine wpAny_pure ?_
  exact h h' tk as hk hl hG
theorem tz_call {Q : Value → Shared → Prop} {n : Nat} (S : ZipSep2 z TI TO i1 i2 fp1 fp2) (D1 : Draws prog w A.in1.in1.in1.in1 i1 fp1 n P1 St1) (D2 : Draws prog w A.in1.in1.in1.in1 i2 fp2 n P2 St2)
    (hlt : ∀ b, b = z ∨ b = TI ∨ b = TO ∨ b ∈ fp1 ∨ b ∈ fp2 → b < s.heap.objs.size) (hn : n ≤ sizeLine)
    (hz : IsZip s.heap z TI TO .none) (hTI : IsTupOf2 s.heap TI (.ref i1) (.ref i2)) (hTO : ∃ a1 a2, IsTupOf2 s.heap TO a1 a2) (st1 : St1 0 s.heap) (st2 : St2 0 s.heap)
    (hQ : ∀ (h' : Heap) (tk : Nat) (as : List Addr), (∀ b o, b ≠ z → b ≠ TO → b ≠ i1 → b ≠ i2 → s.heap.get? b = some o → h'.get? b = some o) → as.length = n → TzG P1 P2 s.heap.objs.size h' as →
      Q (.ref h'.objs.size) { s with heap := h'.push { cls := .type "tuple", data := .seq (as.map Value.ref).toArray }, toks := tk }) :
    wpAny (model prog w) A (call (.type "tuple") [.ref z]) Q E s := by
  refine callType_codes (Q₁ := fun obj s₁ => s₁.TypeIs obj "tuple" ∧ Q obj s₁) F.called_tuple (F.typeCall_tuple_1 _) F.entry_object_init
    (tz_new (A := A.in1) S D1 D2 hlt hn hz hTI hTO st1 st2 fun h' tk as hk hl hG => ⟨⟨_, Heap.get?_push_size _ rfl, rfl⟩, hQ h' tk as hk hl hG⟩) fun obj s₁ h₁ => ?_
  exact ⟨h₁.1, F.args_object_init_2 obj _, object_init_meets F.called_tuple.init.lookup F.called_tuple.made (by decide) prog w A.in1 _ s₁ ⟨h₁.1, rfl, h₁.2⟩⟩
end
end Dl
namespace Dl
open PySem PySem.Spec PyProof.Rows L2 L2.DX
theorem sep2_of {I a b : Nat} (ha : a < I) (hb : b < I) : ZipSep2 (I + 4) (I + 2) (I + 3) I (I + 1) [I, a] [I + 1, b] := by
  have nn : ∀ {x y : Nat}, x ≠ y → (x : Addr) ≠ (y : Addr) := fun h => h
  constructor <;> first
    | exact nn (by omega)
    | exact List.mem_cons_self
    | (intro h
       rcases List.mem_cons.mp h with h | h
       · exact absurd h (nn (by omega))
       · exact absurd (List.mem_singleton.mp h) (nn (by omega)))
section
variable {X : Cx} {e e2 : Expr} {ta : TA} {p p2 pos pos2 : Pos}
def tTZ (K : PySem.W.Frag) (ta : TA) : TE := fun σ H Q => ta σ H fun vs H1 => ∃ (a b : Addr) (xs ys : List V), vs = [.ref a, .ref b] ∧ SqT K H1 a xs ∧ SqL K H1 b ys ∧ xs.length = ys.length ∧
  ∀ (H' : Hp) (l : Addr) (as : List Addr), (∀ b o, H1 b = some o → H' b = some o) → H1 l = none → H' l = some (.tup (as.map V.ref)) → as.length = xs.length → (∀ b ∈ as, H1 b = none) →
    (∀ (j : Nat) (b : Addr) (x y : V), as[j]? = some b → xs[j]? = some x → ys[j]? = some y → H' b = some (.tup [x, y])) → Q (.ref l) H'
theorem pe_tupZip (hcalm : X.calm = true) (hg : Gl X "zip") (hm : X.mg "zip" = none) (hgT : Gl X "tuple") (hmT : X.mg "tuple" = none) (ha : PA X [e, e2] ta)
    (hs : starEach [e, e2] X.env = (false, eval e X.env) :: starEach [e2] X.env := by rfl) (hpl : (backTo pos (starEach [e2] X.env)).any (·.1) = false := by rfl)
    (hs2 : starEach [.Call (.Name "zip" p) [e, e2] [] pos] X.env = (false, eval (.Call (.Name "zip" p) [e, e2] [] pos) X.env) :: starEach [] X.env := by rfl) (hpl2 : (backTo pos2 (starEach [] X.env)).any (·.1) = false := by rfl) :
    PE X (.Call (.Name "tuple" p2) [.Call (.Name "zip" p) [e, e2] [] pos] [] pos2) (tTZ X.K ta) := by
  refine ⟨fun pins s σ H Q I h => ?_⟩
  refine wpAny_Call_Name_kw (ld_blt I hgT hmT boot_tuple ?_)
  refine PyProof.Rows.callWith_type1 ?_ hs2 hpl2
  rw [hs2]
  show wpAny _ _ (spliced ((false, eval (.Call (.Name "zip" p) [e, e2] [] pos) X.env) :: backTo pos2 (starEach [] X.env))) _ _ s
  refine Calls.spliced_cons ?_
  refine Call_ (ld_blt I hg hm PyProof.Rows.boot_zip (PyProof.Rows.callWith_type1 (thn (ha.run pos pins s σ H _ I h) fun us s1 ⟨vs, H1, I1, r1, q1⟩ => ?_) hs hpl))
  obtain ⟨a, b, xs, ys, ex, hqx, hqy, hl, q⟩ := q1
  subst ex
  cases r1 with
  | cons r rr =>
  cases rr with
  | cons r' rr =>
  cases rr
  cases r
  cases r'
  obtain ⟨its, rv, p1, z1⟩ := I1.tuple hqx
  obtain ⟨its2, rv2, p2', z2⟩ := I1.list hqy
  obtain ⟨o1, ho1, _⟩ := id p1
  obtain ⟨o2, n2, ho2, _⟩ := id p2'
  have hh : X.A.handled = none := I1.ok.hd hcalm
  have la : a < s1.heap.objs.size := Heap.lt_size ho1
  have lb : b < s1.heap.objs.size := Heap.lt_size ho2
  refine zip_begins2 (begins_tuple a its.toArray) (begins_list b its2.toArray) p1 p2'.isList fun h' hz hTI hTO h1 h2 hsz hk => ?_
  refine Calls.spliced_nil ?_
  have e1 : its.toArray.size = xs.length := by rw [List.size_toArray]; exact rv.length.symm
  have e2 : its2.toArray.size = its.toArray.size := by rw [e1, List.size_toArray, hl]; exact rv2.length.symm
  have D1 : Draws X.prog X.w X.A.in1.in1.in1.in1 s1.heap.objs.size [s1.heap.objs.size, a] its.toArray.size (fun i v => its.toArray[i]? = some v) (fun i h => h.IsTupleIter s1.heap.objs.size a i ∧ h.IsTuple a its.toArray) := Draws.tuple (A := X.A.in1.in1.in1.in1) (show X.A.in1.in1.in1.in1.handled = none from hh) _ a (Nat.ne_of_lt la) its.toArray
  have D2 : Draws X.prog X.w X.A.in1.in1.in1.in1 (s1.heap.objs.size + 1) [s1.heap.objs.size + 1, b] its.toArray.size (fun i v => its2.toArray[i]? = some v) (fun i h => h.IsListIter (s1.heap.objs.size + 1) b i ∧ h.IsList b its2.toArray) := by
    have := Draws.list (prog := X.prog) (w := X.w) (A := X.A.in1.in1.in1.in1) (show X.A.in1.in1.in1.in1.handled = none from hh) (s1.heap.objs.size + 1) b (Nat.ne_of_lt (Nat.lt_succ_of_lt lb)) its2.toArray
    rwa [e2] at this
  refine tz_call (s := { s1 with heap := h' }) (sep2_of la lb) D1 D2 (fun c hc => ?_) (by rw [e1]; exact z1) hz hTI ⟨_, _, hTO⟩ ⟨⟨_, h1, rfl, rfl⟩, (let ⟨o, ho, r⟩ := p1; ⟨o, hk _ _ ho, r⟩)⟩ ⟨⟨_, h2, rfl, rfl⟩, p2'.isList.at fun o q => hk _ o q⟩ fun h'' tk as hk2 hl2 hG => ?_
  · show c < h'.objs.size
    rw [hsz]
    have la' : @LT.lt Nat _ a s1.heap.objs.size := la
    have lb' : @LT.lt Nat _ b s1.heap.objs.size := lb
    simp only [List.mem_cons, List.not_mem_nil, or_false] at hc
    have nn : ∀ {x y : Nat}, x < y → (x : Addr) < (y : Addr) := fun h => h
    rcases hc with z | z | z | (z | z) | (z | z) <;> (rw [z]; exact nn (by omega))
  have hk3 : ∀ c o, s1.heap.get? c = some o → (h''.push { cls := .type "tuple", data := .seq (as.map Value.ref).toArray }).get? c = some o := fun c o q => by
    have hc : @LT.lt Nat _ c s1.heap.objs.size := Heap.lt_size q
    have nn : ∀ {x y : Nat}, x ≠ y → (x : Addr) ≠ (y : Addr) := fun h => h
    exact Heap.get?_push_of_some _ (hk2 c o (nn (by omega)) (nn (by omega)) (nn (by omega)) (nn (by omega)) (hk c o q))
  have hge : s1.heap.objs.size ≤ h''.objs.size := by
    have nn : ∀ {x y : Nat}, x ≠ y → (x : Addr) ≠ (y : Addr) := fun h => h
    have : @LT.lt Nat _ (s1.heap.objs.size + 2) h''.objs.size := Heap.lt_size (hk2 _ _ (nn (by omega)) (nn (by omega)) (nn (by omega)) (nn (by omega)) hTI)
    omega
  have hn0 : H1 h''.objs.size = none := I1.hok.fresh hge
  have I2 : Inv X pins σ H1 { s1 with heap := h''.push { cls := .type "tuple", data := .seq (as.map Value.ref).toArray }, toks := tk } := I1.kept (t' := tk) hk3
  have hvals : Vals (as.map V.ref) (as.map Value.ref) := vals_maps (fun b : Addr => V.ref b) (fun b => Value.ref b) as fun _ _ => rfl
  have I3 : Inv X pins σ (L2.upd H1 h''.objs.size (.tup (as.map V.ref))) { s1 with heap := h''.push { cls := .type "tuple", data := .seq (as.map Value.ref).toArray }, toks := tk } :=
    I2.take (h' := h''.push { cls := .type "tuple", data := .seq (as.map Value.ref).toArray }) (t' := tk) (fun b ob _ e => e) (I1.fpOk hge hn0) ⟨by rw [List.length_map, hl2, e1]; exact z1, as.map Value.ref, hvals, ⟨_, Heap.get?_push_size _ rfl, rfl, _, rfl⟩⟩
  have nd : as.Nodup := List.Pairwise.imp (fun h => Nat.ne_of_lt h) hG.rise
  have habv : ∀ b ∈ as, s1.heap.objs.size ≤ b := fun b hb => by
    have h5 : h'.objs.size < b := hG.above b hb
    rw [hsz] at h5
    have : s1.heap.objs.size + 5 < (b : Nat) := h5
    exact Nat.le_of_lt (Nat.lt_of_le_of_lt (Nat.le_add_right _ 5) this)
  obtain ⟨H2, I4, g, qt⟩ := takeT (P := fun b ws => ∃ (j : Nat) (x y : V), as[j]? = some b ∧ xs[j]? = some x ∧ ys[j]? = some y ∧ ws = [x, y]) I1 as _ I3 nd fun b hb => by
    obtain ⟨j, hj⟩ := List.mem_iff_getElem?.mp hb
    obtain ⟨u1, u2, f1, f2, f3⟩ := hG.pairs j b hj
    have hjl : j < xs.length := by rw [← e1, ← hl2]; exact (List.getElem?_eq_some_iff.mp hj).1
    obtain ⟨x, hx⟩ : ∃ x, xs[j]? = some x := ⟨xs[j], List.getElem?_eq_getElem hjl⟩
    obtain ⟨y, hy⟩ : ∃ y, ys[j]? = some y := ⟨ys[j]'(by omega), List.getElem?_eq_getElem (by omega)⟩
    obtain ⟨w1, hw1, r1⟩ := rv.get hx
    obtain ⟨w2, hw2, r2⟩ := rv2.get hy
    have q1 : u1 = w1 := by
      rw [List.getElem?_toArray, hw1] at f1
      exact (Option.some.inj f1).symm
    have q2 : u2 = w2 := by
      rw [List.getElem?_toArray, hw2] at f2
      exact (Option.some.inj f2).symm
    subst q1 q2
    refine ⟨habv b hb, ?_, [x, y], ⟨j, x, y, hj, hx, hy, rfl⟩, fun H3 => ⟨by rw [sizeLine_eq]; show 2 ≤ 16777216; omega, [u1, u2], .cons r1 (.cons r2 .nil), ⟨_, Heap.get?_push_of_some _ f3, rfl, 0, rfl⟩⟩⟩
    rw [upd_ne (Nat.ne_of_lt (hG.there hb))]
    exact I1.hok.fresh (habv b hb)
  refine ⟨.ref h''.objs.size, H2, I4, rfl, q H2 _ as (fun c o e => g c o (by rw [upd_ne (ne_of_none e hn0)]; exact e)) hn0 (g _ _ upd_same) (by rw [hl2, e1]) (fun b hb => I1.hok.fresh (habv b hb)) fun j b x y hj hx hy => ?_⟩
  obtain ⟨ws, ⟨i, x', y', hi, hx', hy', rfl⟩, hH⟩ := qt b (List.mem_of_getElem? hj)
  have eij : j = i := (List.getElem?_inj (List.getElem?_eq_some_iff.mp hj).1 nd).mp (hj.trans hi.symm)
  subst eij
  rw [hx] at hx'
  rw [hy] at hy'
  cases hx'
  cases hy'
  exact hH
end
/-- pair by pair -/
def zip2L (xs ys : List Dl.D) : List Dl.D := (List.range xs.length).map fun i => .tup [xs.getD i .non, ys.getD i .non]
section
variable {X : Cx} {P : Program} {w : World} {K : PySem.W.Frag} {mg : Str → Option Value} {base : Heap} {sc : Scope} {N : List Str} {Vs : List Nat} {GN : List Str} {k : Nat}
variable {σd : Sd} {Gs : Pt} {Q : QD} {R : RX} {pos pos2 p p2 : Pos} {e1 e2 : Expr}
/-- tuple(zip(a, b)): a tuple, a list that stays, of one length -/
theorem e_tupZip {i j : Nat} (B : Bd X P w K mg base sc N Vs GN k) (hm : mg "zip" = none) (hmT : mg "tuple" = none) (hG : At GN j ("zip" : Str)) (hGT : At GN i ("tuple" : Str))
    (h : EvA X [e1, e2] σd Gs (fun ds G => ∃ xs ys, ds = [.tup xs, .lst ys] ∧ xs.length = ys.length ∧ Q (.tup (zip2L xs ys)) G) R)
    (hs : starEach [e1, e2] X.env = (false, eval e1 X.env) :: starEach [e2] X.env := by rfl) (hpl : (backTo pos (starEach [e2] X.env)).any (·.1) = false := by rfl)
    (hs2 : starEach [.Call (.Name "zip" p) [e1, e2] [] pos] X.env = (false, eval (.Call (.Name "zip" p) [e1, e2] [] pos) X.env) :: starEach [] X.env := by rfl) (hpl2 : (backTo pos2 (starEach [] X.env)).any (·.1) = false := by rfl) :
    EvD X (.Call (.Name "tuple" p2) [.Call (.Name "zip" p) [e1, e2] [] pos] [] pos2) σd Gs Q R := by
  intro pn xe E F σ H wh hE ob sl
  obtain ⟨g1, g2, g3⟩ := B.nm.gl j _ hG.get
  obtain ⟨t1, t2, t3⟩ := B.nm.gl i _ hGT.get
  refine (pe_tupZip (X := X.tr pn xe) B.calm g1 (by rw [show (X.tr pn xe).mg = mg from B.em]; exact hm) t1 (by rw [show (X.tr pn xe).mg = mg from B.em]; exact hmT) PA.self hs hpl hs2 hpl2).get ?_
  refine h.go wh hE Keep.refl ob sl fun v H1 ds G1 ob1 k1 _ sl1 rx ⟨xs, ys, ex, hl, q⟩ => ?_
  subst ex
  obtain ⟨v1, _, rfl, r1, v2, _, rfl, r2, rfl⟩ := rx
  obtain ⟨a, va, rfl, qa, ra⟩ := tup_sq r1
  obtain ⟨b, vb, rfl, nb, tb, rb⟩ := r2
  have l1 := ra.length
  have l2 := rb.length
  refine ⟨a, b, va, vb, rfl, qa, .inl (.inl tb), by omega, fun H' l as hk hn hll hlen hfr hpairs => ?_⟩
  have kp : Keep (dm (tot G1 F)) H1 (dm (tot G1 F)) H' := fun c o e n => ⟨hk c o e, n⟩
  have ob2 : Ob X.K (tot G1 F) H' := ⟨ob1.nd, fun c m hc => by
    obtain ⟨o, f1, f2⟩ := ob1.at_ c m hc
    exact ⟨o, hk c o f1, f2.keep kp⟩⟩
  refine Post.of (d := .tup (zip2L xs ys)) ob2 (k1.trans kp) ⟨l, _, rfl, .inl ⟨ob1.mem_none hn, .inl hll⟩, ?_⟩ q
  refine rds_of_get (by unfold zip2L; rw [List.length_map, List.length_range, List.length_map]; omega) fun i d' v' h1 h2 => ?_
  unfold zip2L at h1
  rw [List.getElem?_map] at h1 h2
  obtain ⟨c, hc, rfl⟩ := Option.map_eq_some_iff.mp h2
  have hi : i < xs.length := by have := (List.getElem?_eq_some_iff.mp hc).1; omega
  rw [List.getElem?_range hi] at h1
  cases (Option.some.inj h1 : _ = d')
  have g1 : xs[i]? = some (xs.getD i .non) := by rw [List.getD_eq_getElem?_getD, List.getElem?_eq_getElem hi]; rfl
  have g2 : ys[i]? = some (ys.getD i .non) := by rw [List.getD_eq_getElem?_getD, List.getElem?_eq_getElem (by omega)]; rfl
  obtain ⟨x, hx, rx⟩ := ra.get g1
  obtain ⟨y, hy, ry⟩ := rb.get g2
  refine ⟨c, [x, y], rfl, .inl ⟨ob1.mem_none (hfr c (List.mem_of_getElem? hc)), .inl (hpairs i c x y hc hx hy)⟩, x, _, rfl, RD.keep kp _ _ rx, y, _, rfl, RD.keep kp _ _ ry, rfl⟩
end
end Dl
namespace Dl
open PySem PySem.Spec PyProof.Rows L2 L2.DX
/-! ### max(d): the keys, whole numbers -/
def rMaxK : List V → Hp → VK → Prop := fun xs H Q => ∃ (a : Addr) (kvs : List (Key × V)) (ns : List Int), xs = [.ref a] ∧ Rd H a (.dK kvs) ∧ kvs.map (·.1) = ns.map Sum.inl ∧ 0 < ns.length ∧ ∀ m, m ∈ ns → (∀ y, y ∈ ns → y ≤ m) → Q (.int m) H
theorem cr_maxK {X : Cx} (hc : X.calm = true) : CallR X (.builtin "max") rMaxK := by
  intro pins s σ H xs us Q I rx h
  obtain ⟨a, kvs, ns, rfl, hd, hns, hne, q⟩ := h
  rw [Vals.ref1 rx]
  obtain ⟨z, lo, vs, rel, o, es, ep, ho, hx, hdt, prs⟩ := dk_rd I.hok hd
  have dd : s.heap.DictAt (mixKind X.prog X.w) a vs ep := ⟨o, es, ho, hx, hdt, prs⟩
  have hkeys : vs.map (·.1) = ns.map Sum.inl := rel.keys.symm.trans hns
  have hvn : vs.length = ns.length := by
    have e := congrArg List.length hkeys
    rw [List.length_map, List.length_map] at e
    exact e
  have hsz : es.size = ns.length := by
    have l1 := prs.2.1.length
    rw [Array.length_toList] at l1
    omega
  refine call_max_walk ?_
  refine iter_keys lo ho hx hdt ?_
  have ha : a < s.heap.objs.size := Heap.lt_size ho
  have hP : ∀ (i : Nat) (v : Value), (∃ en : DictEntry, es[i]? = some en ∧ v = en.key) → ∃ t, v = .int (ns.getD i 0) t := fun i v hv => by
    obtain ⟨en, he, rfl⟩ := hv
    have hi : i < ns.length := by
      rcases Nat.lt_or_ge i es.size with z | z
      · omega
      · rw [Array.getElem?_eq_none z] at he
        cases he
    obtain ⟨⟨k, u⟩, hu⟩ : ∃ e, vs[i]? = some e := ⟨vs[i]'(by omega), List.getElem?_eq_getElem (by omega)⟩
    have hk : k = Sum.inl (ns.getD i 0) := by
      have e1 : (vs.map (·.1))[i]? = some k := by rw [List.getElem?_map, hu]; rfl
      rw [hkeys, List.getElem?_map, List.getElem?_eq_getElem hi] at e1
      rw [List.getD_eq_getElem?_getD, List.getElem?_eq_getElem hi]
      exact (Option.some.inj e1).symm
    have hie : i < es.size := by omega
    obtain ⟨h1, _⟩ := prs.2.1.get? (e := es[i]) (by simp [hie]) hu
    rw [Array.getElem?_eq_getElem hie] at he
    cases he
    rw [hk] at h1
    have h1 : keyIs (Sum.inl (ns.getD i 0)) es[i].key = true := h1
    rcases keyIs_shape h1 with ⟨j, t, e1, e2⟩ | ⟨x, t, e1, e2⟩
    · cases e1
      exact ⟨t, e2⟩
    · cases e1
  refine ⟨s.heap.objs.size, [s.heap.objs.size, a], [s.heap.objs.size], es.size, fun i v => ∃ en : DictEntry, es[i]? = some en ∧ v = en.key, _, fun i j => decide (ns.getD i 0 > ns.getD j 0), rfl, walks_raw (A := X.A.in1) (show X.A.in1.handled = none from I.ok.hd hc) s.heap.objs.size a (Nat.ne_of_lt ha) hdt, ⟨⟨_, Heap.get?_push_size _ rfl, rfl, rfl⟩, Heap.get?_push_of_some _ ho⟩, fun b hb => ?_, by omega, CmpOf.ints_gt (fun i => ns.getD i 0) hP, fun v h' tk hv' hk => ?_⟩
  · show b < (s.heap.push _).objs.size
    rw [size_push']
    rcases List.mem_cons.mp hb with z | z
    · rw [z]
      exact Nat.lt_succ_self _
    · rw [List.mem_singleton.mp z]
      exact Nat.lt_succ_of_lt ha
  · obtain ⟨t, rfl⟩ := hP _ _ hv'
    obtain ⟨m1', m2'⟩ := argBest_gt (fun i => ns.getD i 0) (es.size - 1)
    have m1 : argBest (fun i j => decide (ns.getD i 0 > ns.getD j 0)) (es.size - 1) ≤ es.size - 1 := m1'
    have m2 : ∀ j, j ≤ es.size - 1 → ns.getD j 0 ≤ ns.getD (argBest (fun i j => decide (ns.getD i 0 > ns.getD j 0)) (es.size - 1)) 0 := m2'
    have hk2 : ∀ b o, s.heap.get? b = some o → h'.get? b = some o := fun b o e => hk b o (fun z => by rw [List.mem_singleton.mp z] at e; exact absurd (Heap.lt_size e) (Nat.lt_irrefl _)) (Heap.get?_push_of_some _ e)
    refine ⟨.int _, H, I.kept (t' := tk) hk2, ⟨t, rfl⟩, q _ (PySem.getD_mem (by omega)) fun y hy => ?_⟩
    obtain ⟨j, hj, e⟩ := List.mem_iff_getElem.mp hy
    have z := m2 j (by omega)
    have e3 : ns.getD j 0 = y := by rw [List.getD_eq_getElem?_getD, List.getElem?_eq_getElem hj, ← e] <;> rfl
    rw [e3] at z
    exact z
/-! ### t > u, tuples of whole numbers -/
def rGtT (K : PySem.W.Frag) : R2 := fun x y H Q => ∃ (a b : Addr) (ns ms : List Int), x = .ref a ∧ y = .ref b ∧ SqT K H a (ns.map V.int) ∧ SqT K H b (ms.map V.int) ∧
  Q (.bl (Ob.lexAt (fun j => decide (ns.getD j 0 = ms.getD j 0)) (fun j => decide (ms.getD j 0 < ns.getD j 0)) (decide (ns.length > ms.length)) 0 (min ns.length ms.length))) H
theorem op_gtT {X : Cx} (hu : X.A.units < cLine) : OpR X (compareOp .Gt) (rGtT X.K) := by
  intro pins s σ H x y v u Q I rx ry h
  obtain ⟨a, b, ns, ms, rfl, rfl, ha, hb, q⟩ := h
  cases rx
  cases ry
  obtain ⟨its, r1, p1, _⟩ := I.tuple ha
  obtain ⟨its2, r2, p2, _⟩ := I.tuple hb
  have i1 : IntsAre its ns := Vals.ints r1
  have i2 : IntsAre its2 ms := Vals.ints r2
  have e1 : its.toArray.size = ns.length := by rw [List.size_toArray]; exact i1.length
  have e2 : its2.toArray.size = ms.length := by rw [List.size_toArray]; exact i2.length
  have at1 : ∀ j (h1 : j < its.toArray.size), ∃ t, its.toArray[j] = .int (ns.getD j 0) t := fun j h1 => PyProof.Rows.IntsAre.int_at i1 _ _ (by simp at h1; simp [h1])
  have at2 : ∀ j (h1 : j < its2.toArray.size), ∃ t, its2.toArray[j] = .int (ms.getD j 0) t := fun j h1 => PyProof.Rows.IntsAre.int_at i2 _ _ (by simp at h1; simp [h1])
  have R := Ob.RcOp.tuples_gt (A := X.A) (s := s) (e := fun j => decide (ns.getD j 0 = ms.getD j 0)) (r := fun j => decide (ms.getD j 0 < ns.getD j 0)) p1 p2 hu (fun j h1 h2 => by
    obtain ⟨t, et⟩ := at1 j h1
    obtain ⟨t', et'⟩ := at2 j h2
    rw [et, et']
    have z : (ns.getD j 0 == ms.getD j 0) = decide (ns.getD j 0 = ms.getD j 0) := by
      by_cases q : ns.getD j 0 = ms.getD j 0
      · rw [decide_eq_true q]; exact beq_iff_eq.mpr q
      · rw [decide_eq_false q]; exact beq_eq_false_iff_ne.mpr q
    rw [← z]
    exact SeqAt.EqAt.int_int _ _ _ _) (fun j h1 h2 _ => by
    obtain ⟨t, et⟩ := at1 j h1
    obtain ⟨t', et'⟩ := at2 j h2
    rw [et, et']
    exact Ob.RcOp.gt_int _ _ _ _)
  rw [e1, e2] at R
  have z : wpAny (model X.prog X.w) X.A (compareOp .Gt (.ref a) (.ref b)) (EP X pins σ Q) X.xe s := R X.prog X.w X.xe (EP X pins σ Q) ⟨.bl _, H, I, rfl, q⟩
  exact z
section
variable {X : Cx} {P : Program} {w : World} {K : PySem.W.Frag} {mg : Str → Option Value} {base : Heap} {sc : Scope} {N : List Str} {Vs : List Nat} {GN : List Str} {k : Nat}
variable {σd : Sd} {Gs : Pt} {Q : QD} {R : RX}
theorem k_maxK {x : Dl.D} {kvs : List (Key × Dl.D)} {ks : List Int} (B : Bd X P w K mg base sc N Vs GN k) (h : DcD X.K Gs x kvs) (hk : kvs.map (·.1) = ks.map Sum.inl) (h0 : 0 < ks.length) (q : ∀ m, m ∈ ks → (∀ y ∈ ks, y ≤ m) → Q (.int m) Gs) : CalD X (.builtin "max") [x] Gs Q := ⟨rMaxK, fun pn xe => cr_maxK (X := X.tr pn xe) B.calm, fun F H vs ob r => by
  obtain ⟨v, _, rfl, rv, rfl⟩ := r
  obtain ⟨p, kv, rfl, e, rr⟩ := h F H v ob rv
  exact ⟨p, kv, ks, rfl, e, by rw [kd_keysEq rr, hk], h0, fun m hm hmax => Post.of (d := .int m) ob Keep.refl rfl (q m hm hmax)⟩⟩
theorem rds_intsV {N' : List Addr} {H : Hp} : ∀ {ns : List Int} {vs : List V}, RDs K N' H (ns.map D.int) vs → vs = ns.map V.int
  | [], vs, h => by cases (show vs = [] from h); rfl
  | n :: ns, vs, h => by
    obtain ⟨v, r, rfl, h1, h2⟩ := h
    cases (show v = .int n from h1)
    rw [rds_intsV h2]
    rfl
theorem c_gtT2 {a b c d : Int} (B : Bd X P w K mg base sc N Vs GN k) (q : Q (.bl (decide (c < a ∨ (a = c ∧ d < b)))) Gs) : CmpD X .Gt (.tup [.int a, .int b]) (.tup [.int c, .int d]) Gs Q := ⟨rGtT X.K, fun pn xe => op_gtT (X := X.tr pn xe) (show X.A.units < cLine from Nat.lt_of_le_of_lt (Nat.le_add_right _ 65) (hu65 B)), fun F H vx vy ob rx ry => by
  obtain ⟨p, vs, rfl, t, r⟩ := tup_sq rx
  obtain ⟨p', us, rfl, t2, r2⟩ := tup_sq ry
  have e1 := rds_intsV (ns := [a, b]) r
  have e2 := rds_intsV (ns := [c, d]) r2
  subst e1 e2
  refine ⟨p, p', [a, b], [c, d], rfl, rfl, t, t2, Post.of (d := .bl (decide (c < a ∨ (a = c ∧ d < b)))) ob Keep.refl ?_ q⟩
  show V.bl (if decide (a = c) = true then (if decide (b = d) = true then decide (2 > 2) else decide (d < b)) else decide (c < a)) = V.bl _
  congr 1
  by_cases h1 : a = c
  · rw [if_pos (decide_eq_true h1)]
    by_cases h2 : b = d
    · rw [if_pos (decide_eq_true h2), decide_eq_decide]
      omega
    · rw [if_neg (by simpa using h2), decide_eq_decide]
      omega
  · rw [if_neg (by simpa using h1), decide_eq_decide]
    omega⟩
/-- x in y: data among data -/
theorem c_inL {n m : Nat} {x y d : Dl.D} {ds : List Dl.D} (B : Bd X P w K mg base sc N Vs GN k) (ix : IsD X.K Gs x d) (iy : IsD X.K Gs y (.lst ds)) (hx : shN n d = true) (hy : shN m (.lst ds) = true) (hn : n ≤ 60) (hm : m ≤ 60) (q : Q (.bl (ds.any fun e => eqD e d)) Gs) : CmpD X .In x y Gs Q :=
  c_inD (r := pds ds) B ix iy (shp hx hn) (shp hy hm) (by rw [pds_map, List.any_map]; exact q)
theorem c_ninL {n m : Nat} {x y d : Dl.D} {ds : List Dl.D} (B : Bd X P w K mg base sc N Vs GN k) (ix : IsD X.K Gs x d) (iy : IsD X.K Gs y (.lst ds)) (hx : shN n d = true) (hy : shN m (.lst ds) = true) (hn : n ≤ 60) (hm : m ≤ 60) (q : Q (.bl (!ds.any fun e => eqD e d)) Gs) : CmpD X .NotIn x y Gs Q :=
  c_ninD (r := pds ds) B ix iy (shp hx hn) (shp hy hm) (by rw [pds_map, List.any_map]; exact q)
/-- name = [.. for x, y in ..] -/
theorem slcm2_ {iter elt : Expr} {nx bk ct : Sd → Pt → Prop} {rt : QD} {ex : RX} {pos : Pos} {α : Type} (f1 f2 g : α → Dl.D) {x y z : Str} {px py pz tp spos : Pos} {kk : Nat} {scope : Scope} {i j l : Nat} (own : List (Str × Nat)) (V' : List Nat) (GN' : List Str) (hown : own = [(x, j), (y, l)]) (B : Bd X P w K mg base sc N Vs GN k) (hNz : At N i z) (hN : At N j x) (hN2 : At N l y) (hV : V'[j]? = some 2) (hV2 : V'[l]? = some 2) (hjl : j ≠ l) (hyl : sc.names.lookup z = some .local) (hk : sc.kind = .function) (hl : (pz.line == pos.line) = true) (hsw : (scope.names.any fun (n, k) => n == z && (k == .local || k == .cell)) = false) (hb : blkC N sc scope own = true) (hn : blkNC scope sc N V' GN' = true)
    (h : ItE X (.Tuple [.Name x px, .Name y py] kk tp) iter σd Gs (fun ds stay G1 => ∃ l0 : List α, ds = l0.map (fun z => .tup [f1 z, f2 z]) ∧ stay G1 ∧ l0.length ≤ sizeLine ∧ (∀ (i : Nat) (z : α), l0[i]? = some z → E2 P w K mg base (relS scope sc) N V' GN' k elt j l σd (f1 z) (f2 z) (g z) G1) ∧ ∃ σ', SetAt σd i (some (.lst (l0.map g))) σ' ∧ nx σ' G1) ex)
    (hs : ∀ x, foldedSetIterable iter X.env x = pure x := by intro _; rfl) : StD X (.Assign [.Name z pz] (.ListComp elt [⟨.Tuple [.Name x px, .Name y py] kk tp, iter, [], 0⟩] scope pos) spos) σd Gs ⟨nx, rt, bk, ct, ex⟩ := by
  subst hown
  refine slc_ B hNz hyl hk hl hsw hb hn (ctg_tup B hn hN.get hV (by simp) hN2.get hV2 (by simp)) ?_ hs
  intro pn xe E F σ H wh hE ob sl
  refine semPI_imp (h pn xe E F σ H wh hE ob sl) fun Jt H1 ⟨ds, stay, G1, a1, a2, a3, l0, ed, st, hz, turn, q⟩ => ⟨ds, stay, G1, a1, a2, a3, ?_⟩
  subst ed
  obtain ⟨I, i0, it, id⟩ := lci_ (ds := l0.map fun z => D.tup [f1 z, f2 z]) (stay := stay) (G1 := G1) (Q := fun d G => ∃ σ', SetAt σd i (some d) σ' ∧ nx σ' G) (T := fun d acc G' A _ => (∃ a b, d = .tup [a, b]) ∧ ∀ Y, Bd Y P w K mg base (relS scope sc) N V' GN' k → EvD Y elt (put2 j l (wipeD σd [j, l]) d) G' (fun y G4 => acc.length < sizeLine ∧ A (acc ++ [y]) G4) R0)
    (fun i acc G => acc = (l0.take i).map g ∧ G = G1) ⟨rfl, rfl⟩ (fun d acc G A A' B0 B' ⟨t1, t2⟩ ha hb => ⟨t1, fun Y BY => EvD.imp (t2 Y BY) fun y G4 ⟨z, q⟩ => ⟨z, ha _ _ q⟩⟩) (by
      intro i d acc G' hd ⟨e1, e2⟩
      subst e1 e2
      obtain ⟨z, hz', rfl⟩ := map_get hd
      refine ⟨st, ⟨_, _, rfl⟩, fun Y BY => ?_⟩
      obtain ⟨σ1, σ', s1, s2, s3⟩ := turn i z hz'
      have es : put2 j l (wipeD σd [j, l]) (.tup [f1 z, f2 z]) = σ' := by
        show (((wipeD σd [j, l]).set j _).set l _) = σ'
        rw [wipe2_set hjl, s1.eq, s2.eq]
      rw [es]
      refine EvD.imp (s3 Y BY) fun y G4 ⟨ey, eG⟩ => ?_
      subst ey eG
      have hi := (List.getElem?_eq_some_iff.mp hz').1
      exact ⟨by rw [List.length_map, List.length_take]; omega, take_map_one hz', rfl⟩) (by
      intro acc G' ⟨e1, e2⟩
      subst e1 e2
      rw [List.length_map, List.take_length]
      exact ⟨st, q⟩)
  refine ⟨I, i0, fun d r acc G' hI => ?_, id⟩
  obtain ⟨hs, t1, t2⟩ := it d r acc G' hI
  exact ⟨hs, t1, fun Y BY => ⟨fun _ Z BZ => t2 Z BZ, fun z => nomatch z⟩⟩
end
end Dl
namespace K61
open PySem PySem.Spec PyProof.Rows L2 Dl
local macro_rules | `(tactic| walk_at "at") => `(tactic| with_reducible (repeat (first | exact At.z | exact SetAt.z | apply At.s | apply SetAt.s)))
local macro_rules | `(tactic| walk_at "b") => `(tactic| with_reducible assumption)
local macro_rules | `(tactic| walk_at "lev") => `(tactic| first | decide | omega)
local macro_rules | `(tactic| walk_at "lit") => `(tactic| first | (with_reducible assumption) | ((with_reducible show atI _ (OfNat.ofNat _) = _); rfl) | ((with_reducible show ixN _ (OfNat.ofNat _) = _); rfl))
local macro_rules | `(tactic| walk_at "boot") => `(tactic| with_reducible (first | exact bb_len | exact bb_int | exact bb_range | exact bb_min | exact bb_max | exact bb_sorted | exact bb_sum | exact bb_list | exact bb_tuple | exact bb_str | exact bb_ord | exact bb_any | exact bb_all | exact bb_isinstance | exact bb_enumerate | exact bb_zip | exact bb_set | exact bb_repr | exact bb_dict))
local macro_rules | `(tactic| walk_at "side") => `(tactic| first | (with_reducible assumption) | omega | decide | rfl | (simp; done) | (simp; omega) | (simp only [Str.length_append]; omega))
local macro_rules | `(tactic| walk_at "cell") => `(tactic| with_reducible (repeat (first | exact Has.here HasP.here | exact Has.here (HasP.next HasP.here) | exact Has.here (HasP.next (HasP.next HasP.here)) | apply Has.next)))
local macro_rules | `(tactic| walk_at "upd") => `(tactic| with_reducible (repeat (first | exact Upd.here UpdP.here | exact Upd.here (UpdP.next UpdP.here) | exact Upd.here (UpdP.next (UpdP.next UpdP.here)) | apply Upd.next)))
local macro_rules | `(tactic| walk_at "sz") => `(tactic| first | (with_reducible assumption) | (simp [sizeLine_eq]; done) | (simp [sizeLine_eq]; omega) | (simp [sizeLine_eq] at *; omega))
local macro_rules | `(tactic| walk_at "spot") => `(tactic| with_reducible (first | exact Spot.here | exact Spot.next Spot.here | exact Spot.next (Spot.next Spot.here) | exact Spot.next (Spot.next (Spot.next Spot.here)) | exact Spot.next (Spot.next (Spot.next (Spot.next Spot.here)))))
local macro_rules | `(tactic| walk_at "ev") => `(tactic| first
  | ((with_reducible show EvD _ (Expr.Name _ _) _ _ _ _); first | refine v_ (by walk_at "b") (by walk_at "at") (by walk_at "at") rfl ?_ | refine g_ (by walk_at "b") (by walk_at "b") (by walk_at "at") ?_)
  | ((with_reducible show EvD _ (Expr.Constant _ _ _) _ _ _ _); first | refine e_int ?_ | refine e_str ?_ | refine e_bl ?_ | refine e_non ?_)
  | ((with_reducible show EvD _ (Expr.Call (Expr.Name (Str.ofString "len") _) [Expr.Call (Expr.Name (Str.ofString "set") _) [_] [] _] [] _) _ _ _ _); refine lenset_ (by walk_at "b") (by walk_at "b") (by walk_at "at") (by walk_at "b") (by walk_at "at") ?_)
  | ((with_reducible show EvD _ (Expr.Call (Expr.Name (Str.ofString "tuple") _) [Expr.Call (Expr.Name (Str.ofString "zip") _) [_, _] [] _] [] _) _ _ _ _); refine e_tupZip (by walk_at "b") (by walk_at "b") (by walk_at "b") (by walk_at "at") (by walk_at "at") ?_)
  | ((with_reducible show EvD _ (Expr.Call (Expr.Name _ _) [] _ _) _ _ _ _); refine makeX0_ (by walk_at "b") (by walk_at "b") (by walk_at "at") (by walk_at "lev") ?_)
  | ((with_reducible show EvD _ (Expr.Call (Expr.Name _ _) _ _ _) _ _ _ _); first | ((with_reducible show EvD _ (Expr.Call (Expr.Name (Str.ofString "_law_draw") _) _ _ _) _ _ _ _); refine draw_ (by walk_at "b") (by walk_at "b") (by walk_at "at") (by walk_at "lev") ?_) | refine callp_ (by walk_at "b") (by walk_at "b") (by walk_at "at") (by walk_at "lev") ?_ | refine calls_ (by walk_at "b") (by walk_at "b") (by walk_at "at") (by walk_at "lev") ?_ | refine calln_ (by walk_at "b") (by walk_at "b") (by walk_at "at") (by walk_at "lev") ?_ | refine callX_ (by walk_at "b") (by walk_at "b") (by walk_at "at") (by walk_at "lev") ?_ | refine makeX_ (by walk_at "b") (by walk_at "b") (by walk_at "at") (by walk_at "lev") ?_ | ((with_reducible show EvD _ (Expr.Call (Expr.Name (Str.ofString "isinstance") _) _ _ _) _ _ _ _); refine isi_ (by walk_at "b") (by walk_at "b") (by walk_at "at") (by walk_at "b") (by walk_at "at") (by walk_at "boot") ?_) | refine bi_ (by walk_at "b") (by walk_at "b") (by walk_at "at") (by walk_at "boot") ?_ | refine bt_ (by walk_at "b") (by walk_at "b") (by walk_at "at") (by walk_at "boot") ?_)
  | ((with_reducible show EvD _ (Expr.Call (Expr.Attribute _ (Str.ofString "pop") _) [] _ _) _ _ _ _); refine e_bm0 PySem.F.plainAttrs_list PySem.F.slot_list_pop PySem.F.type_list_pop ?_)
  | ((with_reducible show EvD _ (Expr.Call (Expr.Attribute _ (Str.ofString "extend") _) _ _ _) _ _ _ _); refine e_bm PySem.F.plainAttrs_list PySem.F.slot_list_extend PySem.F.type_list_extend ?_)
  | ((with_reducible show EvD _ (Expr.Call (Expr.Attribute _ (Str.ofString "get") _) _ _ _) _ _ _ _); refine e_bm PySem.F.plainAttrs_dict PySem.F.slot_dict_get PySem.F.type_dict_get ?_)
  | ((with_reducible show EvD _ (Expr.Call (Expr.Attribute _ (Str.ofString "pop") _) _ _ _) _ _ _ _); refine e_bm PySem.F.plainAttrs_dict PySem.F.slot_dict_pop PySem.F.type_dict_pop ?_)
  | ((with_reducible show EvD _ (Expr.Call (Expr.Attribute _ (Str.ofString "find") _) [_, _] _ _) _ _ _ _); refine e_bm PySem.F.plainAttrs_str PySem.F.slot_str_find PySem.F.type_str_find ?_)
  | ((with_reducible show EvD _ (Expr.Call (Expr.Attribute _ (Str.ofString "startswith") _) _ _ _) _ _ _ _); refine e_bm PySem.F.plainAttrs_str PySem.F.slot_str_startswith PySem.F.type_str_startswith ?_)
  | ((with_reducible show EvD _ (Expr.Call (Expr.Attribute _ (Str.ofString "count") _) _ _ _) _ _ _ _); refine e_bm PySem.F.plainAttrs_str PySem.F.slot_str_count PySem.F.type_str_count ?_)
  | ((with_reducible show EvD _ (Expr.Call (Expr.Attribute _ (Str.ofString "partition") _) _ _ _) _ _ _ _); refine e_bm PySem.F.plainAttrs_str PySem.F.slot_str_partition PySem.F.type_str_partition ?_)
  | ((with_reducible show EvD _ (Expr.Call (Expr.Attribute _ (Str.ofString "split") _) _ _ _) _ _ _ _); refine e_bm PySem.F.plainAttrs_str PySem.F.slot_str_split PySem.F.type_str_split ?_)
  | ((with_reducible show EvD _ (Expr.Call (Expr.Attribute _ (Str.ofString "append") _) _ _ _) _ _ _ _); refine e_bm PySem.F.plainAttrs_list PySem.F.slot_list_append PySem.F.type_list_append ?_)
  | ((with_reducible show EvD _ (Expr.Call (Expr.Attribute _ (Str.ofString "join") _) _ _ _) _ _ _ _); refine e_bm PySem.F.plainAttrs_str PySem.F.slot_str_join PySem.F.type_str_join ?_)
  | ((with_reducible show EvD _ (Expr.Call (Expr.Attribute _ _ _) [] _ _) _ _ _ _); first | (refine methX0_ (by walk_at "b") ?_ (by walk_at "b") (by walk_at "lev") ?_; assumption) | refine methX0_ (by walk_at "b") (by walk_at "b") (by walk_at "b") (by walk_at "lev") ?_)
  | ((with_reducible show EvD _ (Expr.Call (Expr.Attribute _ _ _) (_ :: _) _ _) _ _ _ _); (fail_if_success (with_reducible show EvD _ (Expr.Call (Expr.Attribute _ (Str.ofString "append") _) _ _ _) _ _ _ _)); first | (refine methX_ (by walk_at "b") ?_ (by walk_at "b") (by walk_at "lev") ?_; assumption) | refine methX_ (by walk_at "b") (by walk_at "b") (by walk_at "b") (by walk_at "lev") ?_)
  | ((with_reducible show EvD _ (Expr.JoinedStr _ _) _ _ _ _); refine e_joined ?_)
  | ((with_reducible show EvD _ (Expr.FormattedValue _ _ _ _) _ _ _ _); refine e_fmt ?_)
  | ((with_reducible show EvD _ (Expr.BinOp _ _ _ _) _ _ _ _); refine e_bin ?_)
  | ((with_reducible show EvD _ (Expr.Attribute _ _ _) _ _ _ _); refine e_fld ?_)
  | ((with_reducible show EvD _ (Expr.Subscript _ _ _) _ _ _ _); first | ((with_reducible show EvD _ (Expr.Subscript _ (Expr.Slice _ _ _ _) _) _ _ _ _); refine e_sl ?_) | refine e_ix ?_)
  | ((with_reducible show EvD _ (Expr.Compare _ _ _ _) _ _ _ _); first | ((with_reducible show EvD _ (Expr.Compare _ [_] _ _) _ _ _ _); refine e_cmp ?_) | refine e_chain (by walk_at "b") ?_)
  | ((with_reducible show EvD _ (Expr.Tuple _ _ _) _ _ _ _); refine e_tup ?_)
  | ((with_reducible show EvD _ (Expr.List _ _) _ _ _ _); refine e_lst ?_)
  | ((with_reducible show EvD _ (Expr.IfExp _ _ _ _) _ _ _ _); refine e_if ?_)
  | ((with_reducible show EvD _ (Expr.UnaryOp _ _ _) _ _ _ _); first | refine e_not ?_ | refine e_neg ?_)
  | ((with_reducible show EvD _ (Expr.BoolOp _ _ _) _ _ _ _); first | ((with_reducible show EvD _ (Expr.BoolOp _ [_] _) _ _ _ _); refine e_one ?_) | refine e_and ?_ | refine e_or ?_))
local macro_rules | `(tactic| walk_at "et") => `(tactic| first
  | ((with_reducible show EvT _ (Expr.Compare _ [_] [_] _) _ _ _ _); refine t_cmp ?_)
  | ((with_reducible show EvT _ (Expr.Compare _ _ _ _) _ _ _ _); refine t_chain ?_)
  | ((with_reducible show EvT _ (Expr.UnaryOp UnaryOp.Not _ _) _ _ _ _); refine t_not ?_)
  | ((with_reducible show EvT _ (Expr.BoolOp _ _ _) _ _ _ _); refine t_w ?_)
  | (refine t_val ?_))
local macro_rules | `(tactic| walk_at "ew") => `(tactic| first
  | ((with_reducible show EvW _ (Expr.BoolOp BoolOp.And [_] _) _ _ _ _); refine w_and1 ?_)
  | ((with_reducible show EvW _ (Expr.BoolOp BoolOp.Or [_] _) _ _ _ _); refine w_or1 ?_)
  | ((with_reducible show EvW _ (Expr.BoolOp BoolOp.And _ _) _ _ _ _); refine w_and ?_)
  | ((with_reducible show EvW _ (Expr.BoolOp BoolOp.Or _ _) _ _ _ _); refine w_or ?_))
set_option hygiene false in
local macro_rules | `(tactic| walk_at "st") => `(tactic| first
  | ((with_reducible show StD _ (Stmt.Assign [Expr.Name _ _] (Expr.List [] _) _) _ _ _); refine sset_ (by walk_at "b") (by walk_at "at") rfl (e_lstO (a_nil ⟨by decide, fun p => ?_⟩)))
  | ((with_reducible show StD _ (Stmt.Assign [Expr.Name _ _] _ _) _ _ _); (fail_if_success (with_reducible show StD _ (Stmt.Assign _ (Expr.List _ _) _) _ _ _)); (fail_if_success (with_reducible show StD _ (Stmt.Assign _ (Expr.ListComp _ _ _ _) _) _ _ _)); refine sset_ (by walk_at "b") (by walk_at "at") rfl ?_)
  | ((with_reducible show StD _ (Stmt.If _ _ _ _) _ _ _); refine sif_ ?_)
  | ((with_reducible show StD _ (Stmt.Try _ _ [] [] _) _ _ _); refine stry_ (by walk_at "b") (by walk_at "b") (by walk_at "clauses") ?_)
  | ((with_reducible show StD _ (Stmt.Raise _ _ _) _ _ _); first | refine sraiseI_ (by walk_at "b") (by walk_at "b") (by walk_at "at") ?_ | refine sraiseT_ (by walk_at "b") (by walk_at "b") (by walk_at "at") ?_)
  | ((with_reducible show StD _ (Stmt.Return _ _) _ _ _); first | refine sret_ ?_ | refine sretN_ ?_)
  | ((with_reducible show StD _ (Stmt.Expr _ _) _ _ _); refine sexpr_ ?_)
  | ((with_reducible show StD _ (Stmt.Assign [Expr.Attribute _ _ _] _ _) _ _ _); (fail_if_success (with_reducible show StD _ (Stmt.Assign _ (Expr.List [] _) _) _ _ _)); refine sfld_ ?_)
  | ((with_reducible show StD _ (Stmt.Assign [_] _ _) _ _ _); (fail_if_success (with_reducible show StD _ (Stmt.Assign [Expr.Name _ _] _ _) _ _ _)); (fail_if_success (with_reducible show StD _ (Stmt.Assign [Expr.Attribute _ _ _] _ _) _ _ _)); refine sasg_ ?_)
  | ((with_reducible show StD _ (Stmt.For _ (Expr.Call (Expr.Name (Str.ofString "range") _) [_] _ _) _ _ _) _ _ _); refine fr1_ (by walk_at "b") (by walk_at "b") (by walk_at "at") ?_)
  | ((with_reducible show StD _ (Stmt.For _ (Expr.Call (Expr.Name (Str.ofString "range") _) [_, _] _ _) _ _ _) _ _ _); refine fr2_ (by walk_at "b") (by walk_at "b") (by walk_at "at") ?_)
  | ((with_reducible show StD _ (Stmt.Pass _) _ _ _); refine spass_ ?_)
  | ((with_reducible show StD _ (Stmt.Break _) _ _ _); refine sbrk_ ?_)
  | ((with_reducible show StD _ (Stmt.Continue _) _ _ _); refine sctn_ ?_))
local macro_rules | `(tactic| walk_at "tg") => `(tactic| first
  | ((with_reducible show TgD _ (Expr.Name _ _) _ _ _ _ _); refine tn_ (by walk_at "b") (by walk_at "at") rfl (by walk_at "at") ?_)
  | ((with_reducible show TgD _ (Expr.Subscript _ _ _) _ _ _ _ _); refine tg_sub ?_)
  | ((with_reducible show TgD _ (Expr.Tuple _ _ _) _ _ _ _ _); first | refine tgt_ (by walk_at "b") rfl ?_ | refine tgl_ (by walk_at "b") rfl ?_))
local macro_rules | `(tactic| walk_at "bin") => `(tactic| first
  | ((with_reducible show BinD _ Operator.Add (D.int _) (D.int _) _ _); refine b_add ?_)
  | ((with_reducible show BinD _ Operator.Sub (D.int _) (D.int _) _ _); refine b_sub ?_)
  | ((with_reducible show BinD _ Operator.BitAnd (D.int _) (D.int _) _ _); refine b_and ?_)
  | ((with_reducible show BinD _ Operator.Mod (D.int _) (D.int _) _ _); refine b_mod (by walk_at "side") ?_)
  | ((with_reducible show BinD _ Operator.Mult (D.int _) (D.int _) _ _); refine b_mul (by first | exact Or.inr ⟨by omega, by omega⟩ | exact Or.inl ⟨by omega, by omega⟩ | walk_at "side") ?_)
  | ((with_reducible show BinD _ Operator.FloorDiv (D.int _) (D.int _) _ _); refine b_div ⟨by omega, by omega⟩ ?_)
  | ((with_reducible show BinD _ Operator.Add (D.lst (List.map _ _)) (D.lst (List.map _ _)) _ _); refine b_catM (by walk_at "sz") ?_)
  | ((with_reducible show BinD _ Operator.Add (D.tup _) (D.tup _) _ _); refine b_catT (by walk_at "sz") ?_)
  | ((with_reducible show BinD _ Operator.Mult (D.str (S [_])) (D.int _) _ _); refine b_repSS (by walk_at "side") (by walk_at "side") ?_)
  | ((with_reducible show BinD _ Operator.Mult (D.lst [D.int _]) (D.int _) _ _); refine b_repI (by walk_at "side") (by walk_at "side") ?_)
  | ((with_reducible show BinD _ Operator.Add (D.str (S _)) (D.str (S _)) _ _); refine b_addSS (by walk_at "sz") ?_)
  | ((with_reducible show BinD _ Operator.Add (D.str _) (D.str _) _ _); refine b_addS (by walk_at "side") ?_))
local macro_rules | `(tactic| walk_at "cmp") => `(tactic| first
  | ((with_reducible show CmpD _ CmpOp.Lt (D.int _) (D.int _) _ _); refine c_lt ?_)
  | ((with_reducible show CmpD _ CmpOp.LtE (D.int _) (D.int _) _ _); refine c_le ?_)
  | ((with_reducible show CmpD _ CmpOp.Gt (D.int _) (D.int _) _ _); refine c_gt ?_)
  | ((with_reducible show CmpD _ CmpOp.GtE (D.int _) (D.int _) _ _); refine c_ge ?_)
  | ((with_reducible show CmpD _ CmpOp.Eq (D.int _) (D.int _) _ _); refine c_eqI ?_)
  | ((with_reducible show CmpD _ CmpOp.NotEq (D.int _) (D.int _) _ _); refine c_neI ?_)
  | ((with_reducible show CmpD _ CmpOp.Eq (D.str _) (D.str _) _ _); refine c_eqS ?_)
  | ((with_reducible show CmpD _ CmpOp.NotEq (D.str _) (D.str _) _ _); refine c_neS ?_)
  | ((with_reducible show CmpD _ CmpOp.Eq (D.bl _) (D.bl _) _ _); refine c_eqB ?_)
  | ((with_reducible show CmpD _ CmpOp.NotEq (D.bl _) (D.bl _) _ _); refine c_neB ?_)
  | ((with_reducible show CmpD _ CmpOp.In (D.str (S [_])) (D.str _) _ _); refine c_inSg ?_)
  | ((with_reducible show CmpD _ CmpOp.NotIn (D.str (S [_])) (D.str _) _ _); refine c_ninSg ?_)
  | ((with_reducible show CmpD _ CmpOp.LtE (D.str _) (D.str _) _ _); refine c_leS ?_)
  | ((with_reducible show CmpD _ CmpOp.Gt (D.str _) (D.str _) _ _); refine c_gtS ?_)
  | ((with_reducible show CmpD _ CmpOp.In (D.str _) (D.tup (List.map D.str _)) _ _); refine c_inT ?_)
  | ((with_reducible show CmpD _ CmpOp.In (D.str _) (D.ref _) _ _); refine c_inK (j := .inr _) (by walk_at "b") (dc_own (by walk_at "cell")) ?_)
  | ((with_reducible show CmpD _ CmpOp.NotIn (D.str _) (D.ref _) _ _); refine c_ninK (j := .inr _) (by walk_at "b") (dc_own (by walk_at "cell")) ?_)
  | ((with_reducible show CmpD _ CmpOp.In (D.str _) (D.dct _) _ _); refine c_inK (j := .inr _) (by walk_at "b") dc_val ?_)
  | ((with_reducible show CmpD _ CmpOp.NotIn (D.str _) (D.dct _) _ _); refine c_ninK (j := .inr _) (by walk_at "b") dc_val ?_)
  | ((with_reducible show CmpD _ CmpOp.Is _ D.non _ _); refine c_isN ?_)
  | ((with_reducible show CmpD _ CmpOp.IsNot _ D.non _ _); refine c_notN ?_))
local macro_rules | `(tactic| walk_at "cal") => `(tactic| first
  | ((with_reducible show CalD _ (Value.type "int") ([D.int _]) _ _); refine k_int ?_)
  | ((with_reducible show CalD _ (Value.type "int") ([D.bl _]) _ _); refine k_intB ?_)
  | ((with_reducible show CalD _ (Value.builtin "ord") ([D.str (S [_])]) _ _); refine k_ordS ?_)
  | ((with_reducible show CalD _ (Value.type "list") ([D.lst _]) _ _); refine k_listL ls_val ?_)
  | ((with_reducible show CalD _ (Value.builtin "min") ([D.int _, D.int _]) _ _); refine k_min2 (by walk_at "b") ?_)
  | ((with_reducible show CalD _ (Value.builtin "max") ([D.int _, D.int _]) _ _); refine k_max2 (by walk_at "b") ?_)
  | ((with_reducible show CalD _ (Value.builtin "all") ([D.lst (List.map D.bl _)]) _ _); refine k_all (by walk_at "b") ls_val ?_)
  | ((with_reducible show CalD _ (Value.builtin "any") ([D.lst (List.map D.bl _)]) _ _); refine k_any (by walk_at "b") ls_val ?_)
  | ((with_reducible show CalD _ (Value.builtin "any") ([D.lst (List.map D.int _)]) _ _); refine k_anyI (by walk_at "b") ls_val ?_)
  | ((with_reducible show CalD _ (Value.builtin "len") ([D.lst (List.map _ _)]) _ _); refine k_lenM ls_val ?_)
  | ((with_reducible show CalD _ (Value.builtin "len") ([D.str (S _)]) _ _); refine k_lenSS (by walk_at "sz") ?_)
  | ((with_reducible show CalD _ (Value.builtin "len") ([D.scr _]) _ _); refine k_lenC ?_)
  | ((with_reducible show CalD _ (Value.builtin "len") ([D.lst _]) _ _); refine k_lenL ls_val ?_)
  | ((with_reducible show CalD _ (Value.builtin "len") ([D.ref _]) _ _); first | refine k_lenM (ls_own (by walk_at "cell")) ?_ | refine k_lenL (ls_own (by walk_at "cell")) ?_ | refine k_lenK (dc_own (by walk_at "cell")) ?_)
  | ((with_reducible show CalD _ (Value.builtin "len") ([D.dct _]) _ _); refine k_lenK dc_val ?_)
  | ((with_reducible show CalD _ (Value.builtin "len") ([D.tup _]) _ _); refine k_lenT ?_)
  | ((with_reducible show CalD _ (Value.builtin "len") ([D.str _]) _ _); refine k_lenS (by walk_at "side") ?_))
local macro_rules | `(tactic| walk_at "met") => `(tactic| first
  | ((with_reducible show MetD _ "str.partition" (D.str (S _)) [D.str (Str.ofString " ")] _ _); refine m_partL (by walk_at "szs") (fun u => ?_))
  | ((with_reducible show MetD _ "str.split" (D.str (S _)) [D.str (Str.ofString " ")] _ _); refine m_splL (by walk_at "szs") ?_)
  | ((with_reducible show MetD _ "dict.get" (D.dct _) [D.str _, _] _ _); refine m_get2K (j := .inr _) (by walk_at "b") dc_val ?_)
  | ((with_reducible show MetD _ "dict.get" (D.dct _) [D.str _] _ _); refine m_get1K (j := .inr _) (by walk_at "b") dc_val ?_)
  | ((with_reducible show MetD _ "dict.get" (D.ref _) [D.tup _] _ _); refine m_tget1 (by walk_at "b") (by walk_at "cell") ?_)
  | ((with_reducible show MetD _ "dict.pop" (D.ref _) [D.str _, _] _ _); refine m_dpop2 (j := .inr _) (by walk_at "upd") ?_ ?_)
  | ((with_reducible show MetD _ "dict.get" (D.ref _) [D.str _, _] _ _); refine m_dget2S (by walk_at "b") (by walk_at "cell") ?_)
  | ((with_reducible show MetD _ "dict.get" (D.ref _) [D.str _] _ _); refine m_dget1S (by walk_at "b") (by walk_at "cell") ?_)
  | ((with_reducible show MetD _ "dict.pop" (D.ref _) [D.str _] _ _); refine m_dpop1S (by walk_at "upd") (by walk_at "b") ?_)
  | ((with_reducible show MetD _ "str.find" (D.str _) [D.str _, D.int _] _ _); refine m_find3 ?_)
  | ((with_reducible show MetD _ "str.startswith" (D.str _) [D.str _] _ _); refine m_starts ?_)
  | ((with_reducible show MetD _ "str.count" (D.str _) [D.str _] _ _); refine m_count ?_)
  | ((with_reducible show MetD _ "list.extend" (D.ref _) [D.lst _] _ _); refine m_ext (by walk_at "upd") ls_val (by walk_at "sz") ?_)
  | ((with_reducible show MetD _ "list.append" (D.ref _) [_] _ _); refine m_app (by walk_at "upd") (by walk_at "sz") ?_))
local macro_rules | `(tactic| walk_at "ty") => `(tactic| first
  | ((with_reducible show TyD _ "dict" (D.ref _) _ ∧ _); first | refine ⟨ty_dK (by walk_at "cell"), ?_⟩ | refine ⟨ty_dT (by walk_at "cell"), ?_⟩)
  | ((with_reducible show TyD _ "dict" (D.dct _) _ ∧ _); refine ⟨ty_dc dc_val, ?_⟩)
  | ((with_reducible show TyD _ "list" (D.ref _) _ ∧ _); refine ⟨ty_own (by walk_at "cell"), ?_⟩)
  | ((with_reducible show TyD _ "list" (D.lst _) _ ∧ _); refine ⟨ty_lst, ?_⟩)
  | ((with_reducible show TyD _ "str" (D.str _) _ ∧ _); refine ⟨ty_str, ?_⟩))
local macro_rules | `(tactic| walk_at "ix") => `(tactic| first
  | ((with_reducible show IxD _ (D.dct _) (D.str _) _ _); refine ix_K (j := .inr _) (by walk_at "b") dc_val (by walk_at "lit") ?_)
  | ((with_reducible show IxD _ (D.ref _) (D.str _) _ _); refine ix_K (j := .inr _) (by walk_at "b") (dc_own (by walk_at "cell")) (by walk_at "lit") ?_)
  | ((with_reducible show IxD _ (D.ref _) (D.tup _) _ _); refine ix_dT (by walk_at "b") (by walk_at "cell") (by walk_at "lit") ?_)
  | ((with_reducible show IxD _ (D.ref _) (D.int _) _ _); refine ix_own (by walk_at "cell") (by walk_at "lit") ?_)
  | ((with_reducible show IxD _ (D.str (S _)) (D.int _) _ _); refine ix_S (by walk_at "sz") (by walk_at "lit") ?_)
  | ((with_reducible show IxD _ (D.str _) (D.int _) _ _); refine ix_stS (by walk_at "sz") (by walk_at "lit") ?_)
  | ((with_reducible show IxD _ (D.lst _) (D.int _) _ _); refine ix_lst (by walk_at "lit") ?_)
  | ((with_reducible show IxD _ (D.tup _) (D.int _) _ _); refine ix_tp (by walk_at "lit") ?_))
local macro_rules | `(tactic| walk_at "sli") => `(tactic| first
  | ((with_reducible show SliD _ (D.lst (List.map _ _)) _ _ _ _); refine si_lm ?_)
  | ((with_reducible show SliD _ (D.lst _) _ _ _ _); refine si_lst ?_)
  | ((with_reducible show SliD _ (D.str (S _)) _ _ _ _); refine si_S (by walk_at "sz") ?_)
  | ((with_reducible show SliD _ (D.str _) _ _ _ _); refine si_str (by walk_at "sz") ?_)
  | ((with_reducible show SliD _ (D.tup _) _ _ _ _); refine si_tupA ?_)
  | ((with_reducible show SliD _ (D.ref _) _ _ _ _); first | refine si_om (by walk_at "cell") ?_ | refine si_own (by walk_at "cell") ?_))
set_option hygiene false in
local macro_rules | `(tactic| walk_at "t1") => `(tactic| first | refine t1n_ (by walk_at "at") (fun Y BY => ?_) | refine t1c_ (by walk_at "at") (fun Y BY => ?_))
set_option hygiene false in
local macro_rules | `(tactic| walk_at "e1") => `(tactic| refine e1_ (by walk_at "at") (fun Y BY => ?_))
set_option hygiene false in
local macro_rules | `(tactic| walk_at "f1") => `(tactic| refine f1_ (by walk_at "at") (fun Y BY => ?_))
set_option hygiene false in
local macro_rules | `(tactic| walk_at "e2") => `(tactic| refine e2_ (by walk_at "at") (by walk_at "at") (fun Y BY => ?_))
set_option hygiene false in
local macro_rules | `(tactic| walk_at "f2") => `(tactic| refine f2_ (by walk_at "at") (by walk_at "at") (fun Y BY => ?_))
local macro_rules | `(tactic| walk_at "ownf") => `(tactic| refine sfld_ (e_lstO (a_nil ⟨by decide, ?_⟩)))
local macro_rules | `(tactic| walk_at "frzf") => `(tactic| refine sfld_ (e_lst (a_nil ⟨by decide, ?_⟩)))
local macro_rules | `(tactic| walk_at "own") => `(tactic| refine sset_ (by walk_at "b") (by walk_at "at") rfl (e_lstO ?_))
local macro_rules | `(tactic| walk_at "frz") => `(tactic| refine sset_ (by walk_at "b") (by walk_at "at") rfl (e_lst ?_))
set_option hygiene false in
local macro_rules | `(tactic| walk_at "iz") => `(tactic| intro Z BZ)
set_option hygiene false in
local macro_rules | `(tactic| walk_at "drw") => `(tactic| refine drw_ (by walk_at "spot") (by walk_at "b") (by walk_at "side") (fun r b' hr0 hr1 hb' => ?_))
local macro_rules | `(tactic| walk_at "clauses") => `(tactic| first | exact Clauses.nil | exact Clauses.one (by walk_at "at") (by walk_at "b") (by walk_at "clauses") | exact Clauses.as (by walk_at "at") (by walk_at "b") (by walk_at "at") (by decide +kernel) (by walk_at "clauses"))
local macro_rules | `(tactic| walk_at "sf") => `(tactic| first | refine fs_oldH (by walk_at "b") (by walk_at "cell") (by walk_at "b") (by walk_at "at") (by walk_at "upd") (by walk_at "at") (Nat.le_of_ble_eq_true (by rfl)) (by walk_at "lev") ?_ | refine fs_newH (by walk_at "b") (by walk_at "cell") (by walk_at "b") (by walk_at "upd") (by rfl) (by rfl) (by rfl) (by rfl) (by walk_at "lev") ?_ | refine fs_old (by walk_at "b") (by walk_at "b") (by walk_at "at") (by walk_at "upd") (by walk_at "at") (Nat.le_of_ble_eq_true (by rfl)) (by walk_at "lev") ?_ | refine fs_new' (by walk_at "b") (by walk_at "b") (by walk_at "upd") (by rfl) (by rfl) (by rfl) (by rfl) (by walk_at "lev") ?_)
set_option hygiene false in
local macro_rules | `(tactic| walk_at "ca") => `(tactic| first | refine ca_no (by walk_at "b") (by walk_at "b") ?_ | refine ca_un (by walk_at "b") (by walk_at "b") (fun xa => ?_) | refine ca_as (by walk_at "b") (by walk_at "b") (fun xa => ?_))
local macro_rules | `(tactic| walk_at "evh") => `(tactic| first
  | ((with_reducible show EvH _ _ _ _ (Expr.Attribute (Expr.Name _ _) _ _) _ _ _); refine eh_fld (by walk_at "b") (by walk_at "b") (by walk_at "b") (by walk_at "at") rfl (by rfl) rfl ?_)
  | ((with_reducible show EvH _ _ _ _ (Expr.Tuple [_, _] _ _) _ _ _); refine eh_tup2 ?_)
  | ((with_reducible show EvH _ _ _ _ (Expr.BoolOp _ _ _) _ _ _); refine eh_hv (by walk_at "hv") ?_)
  | ((with_reducible show EvH _ _ _ _ (Expr.Call _ _ _ _) _ _ _); refine eh_hv (by walk_at "hv") ?_)
  | ((with_reducible show EvH _ _ _ _ (_) _ _ _); refine eh_of ?_))
local macro_rules | `(tactic| walk_at "szs") => `(tactic| first | (with_reducible assumption) | (simp only [Str.length_append, S_len]; omega) | (rw [S_len]; omega) | omega)
local macro_rules | `(tactic| walk_at "x") => `(tactic| first
  | ((with_reducible show FsD _ _ _ _ [] _ _); refine fs_nil ?_)
  | ((with_reducible show FsD _ _ _ _ (_ :: _) _ _); refine fs_cons ?_)
  | ((with_reducible show ∃ z, D.str _ = D.str z ∧ _ ∧ FsD _ _ _ _ _ _ _); refine fs_x (by walk_at "szs") ?_)
  | ((with_reducible show (∃ z, D.str _ = D.str z ∧ _) ∨ _); refine fm_str (by walk_at "szs") ?_)
  | ((with_reducible show (∃ z, D.int _ = D.str z ∧ _) ∨ _); refine fm_int (by walk_at "side") ?_)
  | ((with_reducible show EvD _ _ _ _ _ _); walk_at "ev")
  | ((with_reducible show EvA _ [] _ _ _ _); refine a_nil ?_)
  | ((with_reducible show EvA _ (_ :: _) _ _ _ _); refine a_cons ?_)
  | ((with_reducible show SsD _ [] _ _ _); refine ssn_ ?_)
  | ((with_reducible show SsD _ _ _ _ _); refine ssc_ ?_)
  | ((with_reducible show StD _ _ _ _ _); walk_at "st")
  | ((with_reducible show EvT _ _ _ _ _ _); walk_at "et")
  | ((with_reducible show EvW _ _ _ _ _ _); walk_at "ew")
  | ((with_reducible show BinD _ _ _ _ _ _); walk_at "bin")
  | ((with_reducible show CmpD _ _ _ _ _ _); walk_at "cmp")
  | ((with_reducible show CalD _ _ _ _ _); walk_at "cal")
  | ((with_reducible show IxD _ _ _ _ _); walk_at "ix")
  | ((with_reducible show SetD _ (D.ref _) (D.int _) _ _ _); refine set_own (by walk_at "upd") (by walk_at "lit") ?_)
  | ((with_reducible show SetD _ (D.ref _) (D.str _) _ _ _); refine set_dctS (by walk_at "b") (by walk_at "upd") (by walk_at "sz") ?_)
  | ((with_reducible show SetD _ (D.ref _) (D.tup _) _ _ _); refine set_dT (by walk_at "b") (by walk_at "upd") (by walk_at "sz") ?_)
  | ((with_reducible show SliD _ _ _ _ _ _); walk_at "sli")
  | ((with_reducible show TgsD _ (_ :: _) (_ :: _) _ _ _ _); refine tgs_c ?_)
  | ((with_reducible show TgsD _ [] [] _ _ _ _); refine tgs_n ?_)
  | ((with_reducible show MetD _ _ _ _ _ _); walk_at "met")
  | ((with_reducible show TyD _ _ _ _ ∧ _); walk_at "ty")
  | ((with_reducible show ∃ σ', SetAt _ _ _ σ' ∧ _); refine sx_ (by walk_at "at") ?_)
  | ((with_reducible show Drw _ _ _ _); walk_at "drw")
  | ((with_reducible show FldD _ (D.ref _) _ _ _); first | refine fo_H (by walk_at "b") (by walk_at "cell") (by walk_at "b") (by walk_at "at") (by walk_at "at") ?_ | refine fo_own (by walk_at "b") (by walk_at "b") (by walk_at "cell") (by walk_at "at") (by walk_at "at") ?_)
  | ((with_reducible show SfD _ (D.ref _) _ _ _ _); walk_at "sf")
  | ((with_reducible show (∀ F H vx, Ob _ _ _ → RD _ _ _ _ _ → ∃ a dx vs, _) ∧ _); refine ⟨ins_own (by walk_at "cell"), ?_⟩)
  | ((with_reducible show CatchD _ _ _ _ _ _ []); refine ca_nil ?_)
  | ((with_reducible show CatchD _ _ _ _ _ _ (_ :: _)); walk_at "ca")
  | ((with_reducible show SuD _ _ _ _ [Stmt.Return _ _] _ _ _); refine su_ret ?_)
  | ((with_reducible show SuD _ _ _ _ (Stmt.If _ _ _ _ :: _) _ _ _); refine su_ifR (by walk_at "ht") (by rfl) ?_)
  | ((with_reducible show EvH _ _ _ _ _ _ _ _); walk_at "evh")
  | ((with_reducible show T1 _ _ _ _ _ _ _ _ _ _ _ _ _ _ _ _ _ _ _); walk_at "t1")
  | ((with_reducible show E1 _ _ _ _ _ _ _ _ _ _ _ _ _ _ _ _); walk_at "e1")
  | ((with_reducible show F1 _ _ _ _ _ _ _ _ _ _ _ _ _ _ _ _); walk_at "f1")
  | ((with_reducible show E2 _ _ _ _ _ _ _ _ _ _ _ _ _ _ _ _ _ _); walk_at "e2")
  | ((with_reducible show F2 _ _ _ _ _ _ _ _ _ _ _ _ _ _ _ _ _ _); walk_at "f2")
  | ((with_reducible show F2 _ _ _ _ _ _ _ _ _ _ _ _ _ _ _ _ _ _); walk_at "f2")
  | ((with_reducible show ∀ Z, Bd Z _ _ _ _ _ _ _ _ _ _ → _); walk_at "iz")
  | ((with_reducible show List.length [] ≤ sizeLine ∧ _); refine ⟨Nat.le_of_ble_eq_true (by rfl), ?_⟩)
  | ((with_reducible show List.length (_ :: _) ≤ sizeLine ∧ _); refine ⟨Nat.le_of_ble_eq_true (by rfl), ?_⟩)
  | ((with_reducible show QB _ (D.bl _) _); refine qb_ ?_)
  | ((with_reducible show TgD _ _ _ _ _ _ _); walk_at "tg")
  | ((with_reducible show EvO _ _ _ _ _ _); first | refine o_non ?_ | refine o_som ?_)
  | ((with_reducible show ∃ t, TruD _ _ _ t ∧ _); first | refine trb_ ?_ | refine tri_ ?_ | refine trl_ ?_ | refine trt_ ?_ | refine trn_ ?_ | refine tro_ (by walk_at "cell") ?_ | refine trd_ (by walk_at "cell") ?_ | refine trs_ (by walk_at "sz") ?_)
  | ((with_reducible show ∃ t, D.bl _ = D.bl t ∧ _); refine xb_ ?_)
  | ((with_reducible show ∃ t, D.int _ = D.int t ∧ _); refine xi_ ?_))
set_option hygiene false in
local macro_rules | `(tactic| walk_at "br") => `(tactic| first
  | ((with_reducible show (true = true → _) ∧ (true = false → _)); refine br_t ?_)
  | ((with_reducible show (false = true → _) ∧ (false = false → _)); refine br_f ?_)
  | ((with_reducible show ((!true) = true → _) ∧ ((!true) = false → _)); refine br_nt ?_)
  | ((with_reducible show ((!false) = true → _) ∧ ((!false) = false → _)); refine br_nf ?_)
  | ((with_reducible show (isNon D.non = true → _) ∧ (isNon D.non = false → _)); refine br_t ?_)
  | ((with_reducible show ((!isNon D.non) = true → _) ∧ ((!isNon D.non) = false → _)); refine br_nt ?_)
  | ((with_reducible show (isNon (D.int _) = true → _) ∧ (isNon (D.int _) = false → _)); refine br_f ?_)
  | ((with_reducible show ((!isNon (D.int _)) = true → _) ∧ ((!isNon (D.int _)) = false → _)); refine br_nf ?_)
  | ((with_reducible show (isNon (D.str _) = true → _) ∧ (isNon (D.str _) = false → _)); refine br_f ?_)
  | ((with_reducible show ((!isNon (D.str _)) = true → _) ∧ ((!isNon (D.str _)) = false → _)); refine br_nf ?_)
  | ((with_reducible show (isNon (D.lst _) = true → _) ∧ (isNon (D.lst _) = false → _)); refine br_f ?_)
  | ((with_reducible show ((!isNon (D.lst _)) = true → _) ∧ ((!isNon (D.lst _)) = false → _)); refine br_nf ?_)
  | ((with_reducible show (isNon (D.tup _) = true → _) ∧ (isNon (D.tup _) = false → _)); refine br_f ?_)
  | ((with_reducible show ((!isNon (D.tup _)) = true → _) ∧ ((!isNon (D.tup _)) = false → _)); refine br_nf ?_)
  | ((with_reducible show (isNon (D.bl _) = true → _) ∧ (isNon (D.bl _) = false → _)); refine br_f ?_)
  | ((with_reducible show ((!isNon (D.bl _)) = true → _) ∧ ((!isNon (D.bl _)) = false → _)); refine br_nf ?_)
  | ((with_reducible show (isNon (D.ref _) = true → _) ∧ (isNon (D.ref _) = false → _)); refine br_f ?_)
  | ((with_reducible show ((!isNon (D.ref _)) = true → _) ∧ ((!isNon (D.ref _)) = false → _)); refine br_nf ?_)
  | ((with_reducible show ((decide _) = true → _) ∧ ((decide _) = false → _)); refine br_d (fun h => ?_) (fun h => ?_))
  | ((with_reducible show ((!decide _) = true → _) ∧ ((!decide _) = false → _)); refine br_n (fun h => ?_) (fun h => ?_))
  | ((with_reducible show (if decide _ = true then _ else _)); refine ch_d (fun h => ?_) (fun h => ?_))
  | ((with_reducible show ((!_) = true → _) ∧ ((!_) = false → _)); refine br_nb (fun h => ?_) (fun h => ?_))
  | ((with_reducible show (_ = true → _) ∧ (_ = false → _)); refine br_b (fun h => ?_) (fun h => ?_)))
local macro_rules | `(tactic| walk_at "tx") => `(tactic| first
  | ((with_reducible show TgsD _ (_ :: _) (_ :: _) _ _ _ _); refine tgs_c ?_)
  | ((with_reducible show TgsD _ [] [] _ _ _ _); refine tgs_n ?_)
  | ((with_reducible show TgD _ _ _ _ _ _ _); walk_at "tg"))
local macro_rules | `(tactic| walk_at "tgo") => `(tactic| repeat walk_at "tx")
local macro_rules | `(tactic| walk_at "go") => `(tactic| repeat' walk_at "x")
local macro_rules | `(tactic| walk_at "go2") => `(tactic| repeat' (first | walk_at "x" | walk_at "br"))
local macro_rules | `(tactic| walk_at "hv") => `(tactic| first
  | ((with_reducible show HV _ _ _ _ (Expr.Call _ _ _ _) _ _); exact hv_isi (by walk_at "b") (by walk_at "b") (by walk_at "at") (by walk_at "b") (by walk_at "at") (by walk_at "at") rfl (by rfl) (by walk_at "b") (by walk_at "b") rfl)
  | ((with_reducible show HV _ _ _ _ (Expr.UnaryOp _ _ _) _ _); exact hv_not (by walk_at "hv"))
  | ((with_reducible show HV _ _ _ _ (Expr.BoolOp _ [_, _] _) _ _); exact hv_and (by walk_at "hv") (hv_one (by walk_at "hv"))))
local macro_rules | `(tactic| walk_at "ht") => `(tactic| first
  | ((with_reducible show HT _ _ _ _ (Expr.BoolOp _ [_, _] _) _ _); exact ht_and2 (by walk_at "ht") (by walk_at "ht"))
  | ((with_reducible show HT _ _ _ _ (Expr.UnaryOp _ _ _) _ _); exact ht_not (by walk_at "ht"))
  | ((with_reducible show HT _ _ _ _ (_) _ _); exact ht_val (by walk_at "hv")))
local macro_rules | `(tactic| walk_at "gonil") => `(tactic| repeat' ((fail_if_success (with_reducible show StD _ (Stmt.Assign [Expr.Name _ _] (Expr.List [] _) _) _ _ _)); walk_at "x"))
local macro_rules | `(tactic| walk_at "goif") => `(tactic| repeat' ((fail_if_success (with_reducible show StD _ (Stmt.If _ _ _ _) _ _ _)); walk_at "x"))
local macro_rules | `(tactic| walk_at "gobool") => `(tactic| repeat' ((fail_if_success (with_reducible show EvD _ (Expr.BoolOp _ _ _) _ _ _ _)); walk_at "x"))
local macro_rules | `(tactic| walk_at "goret2") => `(tactic| repeat' ((fail_if_success (with_reducible show SsD _ [Stmt.Return _ _] _ _ _)); (first | walk_at "x" | walk_at "br")))
local macro_rules | `(tactic| walk_at "gofor") => `(tactic| repeat' ((fail_if_success (with_reducible show StD _ (Stmt.For _ _ _ _ _) _ _ _)); walk_at "x"))
local macro_rules | `(tactic| walk_at "golst") => `(tactic| repeat' ((fail_if_success (with_reducible show StD _ (Stmt.Assign [Expr.Name _ _] (Expr.Call (Expr.Name (Str.ofString "list") _) _ _ _) _) _ _ _)); walk_at "x"))
set_option hygiene false in
local macro_rules | `(tactic| walk_at "lsO") => `(tactic| refine sset_ (by walk_at "b") (by walk_at "at") rfl (bt_ (by walk_at "b") (by walk_at "b") (by walk_at "at") (by walk_at "boot") (a_cons (v_ (by walk_at "b") (by walk_at "at") (by walk_at "at") rfl (a_nil (k_listO ls_val fun qn => ?_))))))

/-! ### names and texts -/
abbrev lowers : Str := Str.ofString "abcdefghijklmnopqrstuvwxyz"
def isNm (z : Str) : Bool := decide (1 ≤ z.length ∧ z.length ≤ 6) && z.cps.toList.all fun c => decide (c ∈ lowers.cps.toList)
/-- signs that are printed, none of them a percent sign -/
def okC (c : Nat) : Bool := decide (32 ≤ c) && decide (c ≤ 126) && !decide (c = 37)
def okS (z : Str) : Bool := z.cps.toList.all okC
def isTx (z : Str) : Bool := decide (z.length ≤ 60) && !decide (34 ∈ z.cps.toList)
def okP (l : List Str) : Bool := decide (l.length ≤ 6) && decide l.Nodup && l.all isNm
theorem okS_add {x y : Str} : okS (x ++ y) = (okS x && okS y) := by
  unfold okS
  rw [show (x ++ y).cps.toList = x.cps.toList ++ y.cps.toList from TL.tl_append x y, List.all_append]
theorem okS_str {z : Str} (h : okS z = true) : PyData.strOk z = true := by
  rw [← S_tl z]
  refine strOk_S fun c hc => ?_
  have := List.all_eq_true.mp h c hc
  unfold okC at this
  rw [Bool.and_eq_true, Bool.and_eq_true, decide_eq_true_eq, decide_eq_true_eq] at this
  omega
theorem okS_cps {z : Str} (h : okS z = true) : ∀ c ∈ z.cps.toList, 32 ≤ c ∧ c ≤ 126 ∧ c ≠ 37 := by
  intro c hc
  have := List.all_eq_true.mp h c hc
  unfold okC at this
  rw [Bool.and_eq_true, Bool.and_eq_true, decide_eq_true_eq, decide_eq_true_eq, Bool.not_eq_true', decide_eq_false_iff_not] at this
  exact ⟨this.1.1, this.1.2, this.2⟩
theorem okS_rp {z : Str} {n m : Nat} (h : okS z = true) (hm : z.length ≤ m) : Rp n (10 * m + 2) (.str z) := rp_str (okS_str h) (fun c hc => Nat.lt_of_le_of_lt (okS_cps h c hc).2.1 (by decide)) hm
def names8 : List Str := ["a", "b", "c", "d", "e", "ab", "bc", "cd"]
theorem names8_ok : ∀ z ∈ names8, okS z = true ∧ z.length ≤ 2 ∧ isNm z = true := by decide +kernel
def sp_is_name : SpD := fun ds Gs Q _ => ∃ z : Str, ds = [.str z] ∧ z.length ≤ 1000 ∧ Gs = [] ∧ Q (.bl (isNm z)) []
def sp_is_text : SpD := fun ds Gs Q _ => ∃ z : Str, ds = [.str z] ∧ z.length ≤ 1000 ∧ okS z = true ∧ Gs = [] ∧ Q (.bl (isTx z)) []
def sp_is_after : SpD := fun ds Gs Q _ => ∃ x y : Str, ds = [.str x, .str y] ∧ Gs = [] ∧ Q (.bl (ltS y x)) []
def sp_are_pages : SpD := fun ds Gs Q _ => ∃ l : List Str, ds = [.tup (l.map .str)] ∧ (∀ z ∈ l, z.length ≤ 1000) ∧ Gs = [] ∧ Q (.bl (okP l)) []
def sp_failures : SpD := fun ds Gs Q _ => ∃ z : Str, ds = [.str z] ∧ Gs = [] ∧ Q (.int ((z.cps.toList.filter fun d => decide (d = 33)).length : Nat)) []
def sp_name : SpD := fun ds Gs Q _ => ∃ (p : Addr) (bx : M), ds = [.ref p] ∧ Gs = [[(p, bx)]] ∧ isBox bx ∧ ∀ z b', z ∈ names8 → isBox b' → Q (.str z) [[(p, b')]]
def sp_text : SpD := fun ds Gs Q _ => ∃ (p : Addr) (bx : M) (m : Int), ds = [.ref p, .int m] ∧ Gs = [[(p, bx)]] ∧ isBox bx ∧ 0 ≤ m ∧ m ≤ 20 ∧ ∀ z b', okS z = true → z.length ≤ 60 → isBox b' → Q (.str z) [[(p, b')]]
def sp_alike : SpD := fun ds Gs Q _ => ∃ (x d : D) (n wt : Nat), ds = [x, d] ∧ (∀ K, IsD K Gs x d) ∧ Rp n wt d ∧ n ≤ 60 ∧ wt ≤ sizeLine ∧ Q (.bl true) Gs
def sp_is_name_p : SpD := fun ds Gs Q _ => ∃ z : Str, ds = [.str z] ∧ z.length ≤ 1000 ∧ Gs = [] ∧ Q (.bl (isNm z)) []
def sp_any : SpD := fun ds Gs Q _ => ∃ (p : Addr) (bx : M), ds = [.ref p] ∧ Gs = [[(p, bx)]] ∧ isBox bx ∧ ∀ z b', okS z = true → z.length ≤ 61 → isBox b' → Q (.str z) [[(p, b')]]

def GoodZ (zs : List Str) : Prop := zs.length ≤ 6 ∧ zs.Nodup ∧ ∀ z ∈ zs, z ∈ names8
def sp_pages : SpD := fun ds Gs Q _ => ∃ (p : Addr) (bx : M), ds = [.ref p] ∧ Gs = [[(p, bx)]] ∧ isBox bx ∧ ∀ zs b', GoodZ zs → isBox b' → Q (.tup (zs.map .str)) [[(p, b')]]

/-! ### rows of keys and values -/
section
variable {κ α : Type} [DecidableEq κ]
def getA (l : List (κ × α)) (j : κ) : Option α := (l.find? fun e => decide (e.1 = j)).map (·.2)
def putA (l : List (κ × α)) (j : κ) (a : α) : List (κ × α) := if (l.any fun e => decide (e.1 = j)) = true then l.map (fun e => if e.1 = j then (e.1, a) else e) else l ++ [(j, a)]
theorem getA_nil {j : κ} : getA ([] : List (κ × α)) j = none := rfl
theorem getA_cons {e : κ × α} {l : List (κ × α)} {j : κ} : getA (e :: l) j = if e.1 = j then some e.2 else getA l j := by
  unfold getA
  by_cases h : e.1 = j
  · rw [List.find?_cons_of_pos (by simpa using h), if_pos h]
    rfl
  · rw [List.find?_cons_of_neg (by simpa using h), if_neg h]
theorem any_getA {j : κ} : ∀ {l : List (κ × α)}, (l.any fun e => decide (e.1 = j)) = (getA l j).isSome
  | [] => rfl
  | e :: s => by
    rw [List.any_cons, getA_cons, any_getA]
    by_cases g : e.1 = j
    · rw [if_pos g, decide_eq_true g]
      rfl
    · rw [if_neg g, decide_eq_false g, Bool.false_or]
theorem getA_mem {j : κ} {a : α} : ∀ {l : List (κ × α)}, getA l j = some a → (j, a) ∈ l
  | [], h => by cases h
  | e :: s, h => by
    rw [getA_cons] at h
    by_cases g : e.1 = j
    · rw [if_pos g] at h
      cases h
      rw [← g]
      exact List.mem_cons_self
    · rw [if_neg g] at h
      exact List.mem_cons_of_mem _ (getA_mem h)
theorem getA_some {j : κ} : ∀ {l : List (κ × α)}, j ∈ l.map (·.1) → ∃ a, getA l j = some a
  | [], h => absurd h List.not_mem_nil
  | e :: s, h => by
    rw [getA_cons]
    by_cases g : e.1 = j
    · exact ⟨e.2, if_pos g⟩
    · rw [if_neg g]
      rcases List.mem_cons.mp h with z | z
      · exact absurd z.symm g
      · exact getA_some z
theorem getA_none {j : κ} {l : List (κ × α)} (h : getA l j = none) : j ∉ l.map (·.1) := fun z => by
  obtain ⟨a, e⟩ := getA_some z
  rw [h] at e
  cases e
theorem putA_none {j : κ} {l : List (κ × α)} {a : α} (h : getA l j = none) : putA l j a = l ++ [(j, a)] := by
  unfold putA
  rw [any_getA, h]
  rfl
theorem putA_some {j : κ} {l : List (κ × α)} {a b : α} (h : getA l j = some b) : putA l j a = l.map (fun e => if e.1 = j then (e.1, a) else e) := by
  unfold putA
  rw [any_getA, h]
  rfl
theorem getA_put {l : List (κ × α)} {j i : κ} {a : α} : getA (putA l j a) i = if i = j then some a else getA l i := by
  cases h : getA l j with
  | none =>
    rw [putA_none h]
    have : ∀ l : List (κ × α), getA l j = none → getA (l ++ [(j, a)]) i = if i = j then some a else getA l i := by
      intro l
      induction l with
      | nil =>
        intro _
        rw [List.nil_append, getA_cons, getA_nil]
        by_cases g : j = i
        · rw [if_pos g, if_pos g.symm]
        · rw [if_neg g, if_neg (fun z => g z.symm)]
      | cons e s ih =>
        intro hn
        rw [getA_cons] at hn
        by_cases g : e.1 = j
        · rw [if_pos g] at hn; cases hn
        · rw [if_neg g] at hn
          rw [List.cons_append, getA_cons, getA_cons, ih hn]
          by_cases g2 : e.1 = i
          · rw [if_pos g2, if_pos g2, if_neg (fun z => g (g2.trans z))]
          · rw [if_neg g2, if_neg g2]
    exact this l h
  | some b =>
    rw [putA_some h]
    have : ∀ s : List (κ × α), getA (s.map fun e => if e.1 = j then (e.1, a) else e) i = if i = j then (getA s i).map fun _ => a else getA s i := by
      intro s
      induction s with
      | nil => simp [getA_nil]
      | cons e s ih =>
        rw [List.map_cons, getA_cons, getA_cons, ih]
        by_cases g : e.1 = j
        · rw [if_pos g]
          by_cases g2 : e.1 = i
          · rw [if_pos g2, if_pos g2, if_pos (g2.symm.trans g)]
            rfl
          · rw [if_neg g2, if_neg g2]
        · rw [if_neg g]
          by_cases g2 : e.1 = i
          · rw [if_pos g2, if_pos g2, if_neg (fun z => g (g2.trans z))]
          · rw [if_neg g2, if_neg g2]
    rw [this]
    by_cases g : i = j
    · rw [if_pos g, if_pos g, g, h]
      rfl
    · rw [if_neg g, if_neg g]
theorem keys_putA {l : List (κ × α)} {j : κ} {a : α} : (putA l j a).map (·.1) = if (getA l j).isSome = true then l.map (·.1) else l.map (·.1) ++ [j] := by
  cases h : getA l j with
  | none =>
    rw [putA_none h, List.map_append]
    rfl
  | some b =>
    rw [putA_some h, List.map_map]
    show _ = l.map (·.1)
    refine List.map_congr_left fun e _ => ?_
    show (if e.1 = j then (e.1, a) else e).1 = e.1
    split <;> rfl
theorem len_putA {l : List (κ × α)} {j : κ} {a : α} : (putA l j a).length ≤ l.length + 1 := by
  cases h : getA l j with
  | none => rw [putA_none h, List.length_append]; exact Nat.le_refl _
  | some b => rw [putA_some h, List.length_map]; omega
variable {κ' : Type} [DecidableEq κ'] {fk : κ → κ'} {f : α → D}
theorem valD_map (hk : ∀ i j, fk i = fk j → i = j) {j : κ} : ∀ {l : List (κ × α)}, valD (l.map fun e => (fk e.1, f e.2)) (fk j) = (getA l j).map f
  | [] => rfl
  | e :: l => by
    rw [List.map_cons, valD_cons, getA_cons, valD_map hk]
    by_cases h : e.1 = j
    · rw [if_pos (congrArg fk h), if_pos h]
      rfl
    · rw [if_neg (fun z => h (hk _ _ z)), if_neg h]
theorem putD_map (hk : ∀ i j, fk i = fk j → i = j) {j : κ} {a : α} {l : List (κ × α)} : putD (l.map fun e => (fk e.1, f e.2)) (fk j) (f a) = (putA l j a).map fun e => (fk e.1, f e.2) := by
  have hany : ((l.map fun e => (fk e.1, f e.2)).any fun kv => decide (kv.1 = fk j)) = l.any fun e => decide (e.1 = j) := by
    rw [List.any_map]
    congr 1
    funext e
    show decide (fk e.1 = fk j) = decide (e.1 = j)
    rw [decide_eq_decide]
    exact ⟨fun z => hk _ _ z, fun z => congrArg _ z⟩
  unfold putD putA
  rw [hany]
  split
  · rw [List.map_map, List.map_map]
    refine List.map_congr_left fun e _ => ?_
    show (if fk e.1 = fk j then (fk e.1, f a) else (fk e.1, f e.2)) = (fk (if e.1 = j then (e.1, a) else e).1, f (if e.1 = j then (e.1, a) else e).2)
    by_cases h : e.1 = j
    · rw [if_pos (congrArg _ h), if_pos h]
    · rw [if_neg (fun z => h (hk _ _ z)), if_neg h]
  · rw [List.map_append]
    rfl
end
/-! ### mirrors -/
structure Sv where
  nms : List Str
  beh : D
  q : Addr
  tms : List (Int × Int)
abbrev restD (v : Sv) : D := .tup [.tup (v.nms.map .str), v.beh]
abbrev sealD (v : Sv) : D := .tup [restD v, .ref v.q]
abbrev kI (i : Int) : Key := .inl i
abbrev kP (e : Int × Str) : List Key := [.inl e.1, .inr e.2]
abbrev Pg := List ((Int × Str) × Str)
abbrev Sls := List (Int × Sv)
abbrev tmK (t : List (Int × Int)) : List (Key × D) := t.map fun e => (kI e.1, D.int e.2)
abbrev slK (ss : Sls) : List (Key × D) := ss.map fun e => (kI e.1, sealD e.2)
abbrev pgK (pg : Pg) : List (List Key × D) := pg.map fun e => (kP e.1, D.str e.2)
abbrev slC (ss : Sls) : List Cell := ss.map fun e => (e.2.q, .dK (tmK e.2.tms))
abbrev miPt (P : Program) (w : World) (C p pp pz : Addr) (a b : Int) (sh : D) (pg : Pg) (ss : Sls) : List Cell := (p, .ins C ["_pages", "_seals", "_best", "_shown"] [.ref pp, .ref pz, .tup [.int a, .int b], sh]) :: (pp, .dT P w pp (pgK pg)) :: (pz, .dK (slK ss)) :: slC ss
theorem kI_inj : ∀ i j : Int, kI i = kI j → i = j := fun _ _ h => Sum.inl.inj h
theorem kP_inj : ∀ i j : Int × Str, kP i = kP j → i = j := fun i j h => by
  have h1 := List.cons.inj h
  have h2 := List.cons.inj h1.2
  exact Prod.ext (Sum.inl.inj h1.1) (Sum.inr.inj h2.1)
theorem val_pg {pg : Pg} {n : Int} {x : Str} : valD (pgK pg) [.inl n, .inr x] = (getA pg (n, x)).map D.str := valD_map (fk := kP) kP_inj (j := (n, x))
theorem val_sl {ss : Sls} {n : Int} : valD (slK ss) (.inl n) = (getA ss n).map sealD := valD_map (fk := kI) kI_inj (j := n)
theorem val_tm {t : List (Int × Int)} {c : Int} : valD (tmK t) (.inl c) = (getA t c).map D.int := valD_map (fk := kI) kI_inj (j := c)
theorem put_pg {pg : Pg} {n : Int} {x t : Str} : putD (pgK pg) [.inl n, .inr x] (.str t) = pgK (putA pg (n, x) t) := putD_map (fk := kP) kP_inj (j := (n, x))
theorem put_sl {ss : Sls} {n : Int} {v : Sv} : putD (slK ss) (.inl n) (sealD v) = slK (putA ss n v) := putD_map (fk := kI) kI_inj (j := n)
theorem put_tm {t : List (Int × Int)} {c d : Int} : putD (tmK t) (.inl c) (.int d) = tmK (putA t c d) := putD_map (fk := kI) kI_inj (j := c)
/-- the cell of a number's times -/
theorem has_sl {n : Int} {v : Sv} : ∀ {ss : Sls}, getA ss n = some v → HasP (slC ss) v.q (.dK (tmK v.tms))
  | [], h => by cases h
  | e :: ss, h => by
    rw [getA_cons] at h
    by_cases g : e.1 = n
    · rw [if_pos g] at h
      cases h
      exact .here
    · rw [if_neg g] at h
      exact .next (has_sl h)
theorem upd_sl {n : Int} {v : Sv} {t : List (Int × Int)} : ∀ {ss : Sls}, (ss.map (·.1)).Nodup → getA ss n = some v → UpdP (slC ss) v.q (.dK (tmK v.tms)) (.dK (tmK t)) (slC (putA ss n { v with tms := t }))
  | [], _, h => by cases h
  | e :: ss, hn, h => by
    have hn' := List.nodup_cons.mp hn
    rw [putA_some h]
    rw [getA_cons] at h
    by_cases g : e.1 = n
    · rw [if_pos g] at h
      cases h
      have : (ss.map fun o => if o.1 = n then (o.1, { e.2 with tms := t }) else o) = ss := by
        conv => rhs; rw [← List.map_id ss]
        refine List.map_congr_left fun o ho => ?_
        rw [if_neg (fun z => hn'.1 (by show e.1 ∈ _; rw [g, ← z]; exact List.mem_map.mpr ⟨o, ho, rfl⟩))]
        rfl
      rw [List.map_cons, if_pos g, this]
      exact .here
    · rw [if_neg g] at h
      have ih := upd_sl (t := t) hn'.2 h
      rw [putA_some h] at ih
      rw [List.map_cons, if_neg g]
      exact .next ih
theorem same_sl {n : Int} {v : Sv} {t : List (Int × Int)} : ∀ {ss : Sls}, (ss.map (·.1)).Nodup → getA ss n = some v → slK (putA ss n { v with tms := t }) = slK ss
  | [], _, h => by cases h
  | e :: ss, hn, h => by
    have hn' := List.nodup_cons.mp hn
    rw [putA_some h]
    rw [getA_cons] at h
    by_cases g : e.1 = n
    · rw [if_pos g] at h
      cases h
      have : (ss.map fun o => if o.1 = n then (o.1, { e.2 with tms := t }) else o) = ss := by
        conv => rhs; rw [← List.map_id ss]
        refine List.map_congr_left fun o ho => ?_
        rw [if_neg (fun z => hn'.1 (by show e.1 ∈ _; rw [g, ← z]; exact List.mem_map.mpr ⟨o, ho, rfl⟩))]
        rfl
      rw [List.map_cons, if_pos g, this]
      rfl
    · rw [if_neg g] at h
      have ih := same_sl (t := t) hn'.2 h
      rw [putA_some h] at ih
      rw [List.map_cons, if_neg g]
      show _ :: slK _ = _ :: slK ss
      rw [ih]
/-- what a number's seal and the pages lead to -/
def txts (pg : Pg) (n : Int) (nms : List Str) : List (Option Str) := nms.map fun x => getA pg (n, x)
def pairsD (pg : Pg) (n : Int) (nms : List Str) : D := .tup (nms.map fun x => .tup [.str x, .str ((getA pg (n, x)).getD "")])
def isMx (t : List (Int × Int)) (c : Int) : Prop := c ∈ t.map (·.1) ∧ ∀ y ∈ t.map (·.1), y ≤ c
abbrev foundD (pg : Pg) (n : Int) (v : Sv) (c : Int) : D := .tup [.int n, .int c, .int ((getA v.tms c).getD 0), pairsD pg n v.nms, v.beh]
def isFull (pg : Pg) (n : Int) (v : Sv) : Bool := (txts pg n v.nms).all Option.isSome
def sp_Mirror_init (P : Program) (w : World) (C : Addr) : SpD := fun ds Gs Q _ => ∃ p, ds = [.ref p] ∧ Gs = [[(p, .ins C [] [])]] ∧ ∀ pp pz, Q .non [miPt P w C p pp pz (0 - 1) (0 - 1) (.tup [.int 0, .int 0, .int 0, .tup [], .tup []]) [] []]
def sp_Mirror_check (CU C : Addr) : SpD := fun ds Gs Q R => ∃ (p : Addr) (x y : D), ds = [.ref p, x, y] ∧ Gs = [] ∧ dat 8 x = true ∧ dat 8 y = true ∧ (x = .non → Q .non []) ∧ (x = y → Q .non []) ∧ (x ≠ .non → x ≠ y → R CU [] [])
def optT : Option Str → D
  | none => .non
  | some t => .str t
def sp_Mirror_hear_page (P : Program) (w : World) (CU C : Addr) : SpD := fun ds Gs Q R => ∃ (p pp pz : Addr) (a b : Int) (sh : D) (pg : Pg) (ss : Sls) (n : Int) (x t : Str), ds = [.ref p, .int n, .str x, .str t] ∧ Gs = [miPt P w C p pp pz a b sh pg ss] ∧ PyData.strOk t = true ∧ (∀ e ∈ pg, PyData.strOk e.2 = true) ∧ pg.length < 1000 ∧
  ((getA pg (n, x) = none ∨ getA pg (n, x) = some t) → Q .non [miPt P w C p pp pz a b sh (putA pg (n, x) t) ss]) ∧ (∀ t', getA pg (n, x) = some t' → t' ≠ t → R CU [] [miPt P w C p pp pz a b sh pg ss])
structure SlOk (ss : Sls) : Prop where
  nd : (ss.map (·.1)).Nodup
  len : ss.length < 60
  dt : ∀ e ∈ ss, dat 8 (restD e.2) = true
  tm : ∀ e ∈ ss, 0 < e.2.tms.length ∧ e.2.tms.length < 1000
def sp_Mirror_hear_seal (P : Program) (w : World) (CU C : Addr) : SpD := fun ds Gs Q R => ∃ (p pp pz : Addr) (a b : Int) (sh : D) (pg : Pg) (ss : Sls) (n c t : Int) (nms : List Str) (beh : D), ds = [.ref p, .int n, .int c, .int t, .tup [.tup (nms.map .str), beh]] ∧ Gs = [miPt P w C p pp pz a b sh pg ss] ∧ SlOk ss ∧ dat 8 (.tup [.tup (nms.map .str), beh]) = true ∧
  (getA ss n = none → ∀ q, Q .non [miPt P w C p pp pz a b sh pg (putA ss n ⟨nms, beh, q, [(c, t)]⟩)]) ∧
  (∀ v, getA ss n = some v → restD v ≠ .tup [.tup (nms.map .str), beh] → R CU [] [miPt P w C p pp pz a b sh pg ss]) ∧
  (∀ v, getA ss n = some v → restD v = .tup [.tup (nms.map .str), beh] → (getA v.tms c = none ∨ getA v.tms c = some t) → Q .non [miPt P w C p pp pz a b sh pg (putA ss n { v with tms := putA v.tms c t })]) ∧
  (∀ v t', getA ss n = some v → restD v = .tup [.tup (nms.map .str), beh] → getA v.tms c = some t' → t' ≠ t → R CU [] [miPt P w C p pp pz a b sh pg ss])
def sp_Mirror_complete (P : Program) (w : World) (C : Addr) : SpD := fun ds Gs Q _ => ∃ (p pp pz : Addr) (a b : Int) (sh : D) (pg : Pg) (ss : Sls) (n : Int) (v : Sv), ds = [.ref p, .int n] ∧ Gs = [miPt P w C p pp pz a b sh pg ss] ∧ SlOk ss ∧ getA ss n = some v ∧ v.nms.length < 100 ∧
  (isFull pg n v = false → Q .non [miPt P w C p pp pz a b sh pg ss]) ∧ (isFull pg n v = true → ∀ c, isMx v.tms c → Q (foundD pg n v c) [miPt P w C p pp pz a b sh pg ss])
/-! ### letters -/
inductive Lt where
  | page (n : Int) (x t : Str) | slt (n c t : Int) (nms : List Str) (beh : D)
def ltD : Lt → D
  | .page n x t => .tup [.str "page", .int n, .str x, .str t]
  | .slt n c t nms beh => .tup [.str "seal", .int n, .int c, .int t, .tup (nms.map .str), beh]
def LtOk : Lt → Prop
  | .page _ x t => PyData.strOk x = true ∧ PyData.strOk t = true
  | .slt _ _ _ nms beh => dat 8 (.tup [.tup (nms.map .str), beh]) = true ∧ nms.length < 100
structure MiOk (pg : Pg) (ss : Sls) (k : Nat) : Prop where
  nd : (ss.map (·.1)).Nodup
  sl : ss.length ≤ k
  pl : pg.length ≤ k
  dt : ∀ e ∈ ss, dat 8 (restD e.2) = true ∧ e.2.nms.length < 100
  tm : ∀ e ∈ ss, 0 < e.2.tms.length ∧ e.2.tms.length ≤ k
  pt : ∀ e ∈ pg, PyData.strOk e.2 = true
theorem MiOk.slOk {pg : Pg} {ss : Sls} {k : Nat} (h : MiOk pg ss k) (hk : k < 60) : SlOk ss := ⟨h.nd, by have := h.sl; omega, fun e he => (h.dt e he).1, fun e he => ⟨(h.tm e he).1, by have := (h.tm e he).2; omega⟩⟩
inductive Heard (pg : Pg) (ss : Sls) : Lt → Pg → Sls → Prop
  | page {n : Int} {x t : Str} : (getA pg (n, x) = none ∨ getA pg (n, x) = some t) → Heard pg ss (.page n x t) (putA pg (n, x) t) ss
  | new {n c t : Int} {nms : List Str} {beh : D} {q : Addr} : getA ss n = none → Heard pg ss (.slt n c t nms beh) pg (putA ss n ⟨nms, beh, q, [(c, t)]⟩)
  | old {n c t : Int} {nms : List Str} {beh : D} {v : Sv} : getA ss n = some v → restD v = .tup [.tup (nms.map .str), beh] → (getA v.tms c = none ∨ getA v.tms c = some t) → Heard pg ss (.slt n c t nms beh) pg (putA ss n { v with tms := putA v.tms c t })
def Refused (pg : Pg) (ss : Sls) : Lt → Prop
  | .page n x t => ∃ t', getA pg (n, x) = some t' ∧ t' ≠ t
  | .slt n c t nms beh => ∃ v, getA ss n = some v ∧ (restD v ≠ .tup [.tup (nms.map .str), beh] ∨ ∃ t', getA v.tms c = some t' ∧ t' ≠ t)
theorem mem_putA {κ α : Type} [DecidableEq κ] {l : List (κ × α)} {j : κ} {a : α} {e : κ × α} (h : e ∈ putA l j a) : e = (j, a) ∨ e ∈ l := by
  unfold putA at h
  split at h
  · obtain ⟨x, hx, rfl⟩ := List.mem_map.mp h
    split
    · rename_i g
      exact .inl (by rw [g])
    · exact .inr hx
  · rcases List.mem_append.mp h with h | h
    · exact .inr h
    · exact .inl (List.mem_singleton.mp h)
theorem nd_putA {κ α : Type} [DecidableEq κ] {l : List (κ × α)} {j : κ} {a : α} (h : (l.map (·.1)).Nodup) : ((putA l j a).map (·.1)).Nodup := by
  rw [keys_putA]
  split
  · exact h
  · rename_i g
    have hn : getA l j = none := by
      cases e : getA l j with
      | none => rfl
      | some x => rw [e] at g; exact absurd rfl g
    refine List.nodup_append.mpr ⟨h, List.nodup_cons.mpr ⟨List.not_mem_nil, List.nodup_nil⟩, fun a ha b hb => ?_⟩
    rw [List.mem_singleton.mp hb]
    exact fun z => getA_none hn (z ▸ ha)
theorem heard_ok {pg pg' : Pg} {ss ss' : Sls} {l : Lt} {k : Nat} (h : Heard pg ss l pg' ss') (ho : MiOk pg ss k) (hl : LtOk l) : MiOk pg' ss' (k + 1) := by
  obtain ⟨h1, h2, h3, h4, h5, h6⟩ := ho
  cases h with
  | page g => exact ⟨h1, by omega, Nat.le_trans len_putA (by omega), h4, fun e he => ⟨(h5 e he).1, by have := (h5 e he).2; omega⟩, fun e he => by
      rcases mem_putA he with z | z
      · rw [z]; exact hl.2
      · exact h6 e z⟩
  | new g =>
    refine ⟨nd_putA h1, Nat.le_trans len_putA (by omega), by omega, fun e he => ?_, fun e he => ?_, h6⟩
    · rcases mem_putA he with z | z
      · rw [z]; exact hl
      · exact h4 e z
    · rcases mem_putA he with z | z
      · rw [z]; exact ⟨Nat.zero_lt_one, by show 1 ≤ _; omega⟩
      · exact ⟨(h5 e z).1, by have := (h5 e z).2; omega⟩
  | @old n c t nms beh v g g2 g3 =>
    have hv := getA_mem g
    refine ⟨nd_putA h1, Nat.le_trans len_putA (by omega), by omega, fun e he => ?_, fun e he => ?_, h6⟩
    · rcases mem_putA he with z | z
      · rw [z]; exact h4 (n, v) hv
      · exact h4 e z
    · rcases mem_putA he with z | z
      · rw [z]
        have h7 := h5 _ hv
        have h8 := len_putA (l := v.tms) (j := c) (a := t)
        refine ⟨?_, by show (putA v.tms c t).length ≤ _; have : v.tms.length ≤ k := h7.2; omega⟩
        show 0 < (putA v.tms c t).length
        have h9 := congrArg List.length (keys_putA (l := v.tms) (j := c) (a := t))
        rw [List.length_map] at h9
        have h10 : 0 < v.tms.length := h7.1
        split at h9
        · rw [List.length_map] at h9; omega
        · rw [List.length_append, List.length_map] at h9; omega
      · exact ⟨(h5 e z).1, by have := (h5 e z).2; omega⟩
def gtP (n c a b : Int) : Prop := a < n ∨ (a = n ∧ b < c)
structure Out (pg : Pg) (ss : Sls) (a b : Int) (sh : D) (a' b' : Int) (sh' : D) : Prop where
  max : ∀ n v c, getA ss n = some v → isFull pg n v = true → isMx v.tms c → ¬ gtP n c a' b'
  old : ¬ gtP a b a' b'
  is : (a' = a ∧ b' = b ∧ sh' = sh) ∨ ∃ n v c, getA ss n = some v ∧ isFull pg n v = true ∧ isMx v.tms c ∧ a' = n ∧ b' = c ∧ sh' = foundD pg n v c
def sp_Mirror_hear (P : Program) (w : World) (CU C : Addr) : SpD := fun ds Gs Q R => ∃ (p pp pz : Addr) (a b : Int) (sh : D) (pg : Pg) (ss : Sls) (k : Nat) (l : Lt), ds = [.ref p, ltD l] ∧ Gs = [miPt P w C p pp pz a b sh pg ss] ∧ MiOk pg ss k ∧ k < 55 ∧ LtOk l ∧ dat 8 sh = true ∧
  (∀ pg' ss' a' b' sh', Heard pg ss l pg' ss' → Out pg' ss' a b sh a' b' sh' → dat 8 sh' = true → Q (.bl (!eqD sh' sh)) [miPt P w C p pp pz a' b' sh' pg' ss']) ∧ (Refused pg ss l → R CU [] [miPt P w C p pp pz a b sh pg ss])
def sp_Mirror_shown (P : Program) (w : World) (C : Addr) : SpD := fun ds Gs Q _ => ∃ (p pp pz : Addr) (a b : Int) (sh : D) (pg : Pg) (ss : Sls), ds = [.ref p] ∧ Gs = [miPt P w C p pp pz a b sh pg ss] ∧ Q sh [miPt P w C p pp pz a b sh pg ss]
def sp_Mirror_page (P : Program) (w : World) (C : Addr) : SpD := fun ds Gs Q _ => ∃ (p pp pz : Addr) (a b : Int) (n c t : D) (rows : List (Str × Str)) (beh : D) (pg : Pg) (ss : Sls) (x : Str), ds = [.ref p, .str x] ∧ Gs = [miPt P w C p pp pz a b (.tup [n, c, t, .tup (rows.map fun e => .tup [.str e.1, .str e.2]), beh]) pg ss] ∧ Q (((getA rows x).map D.str).getD .non) [miPt P w C p pp pz a b (.tup [n, c, t, .tup (rows.map fun e => .tup [.str e.1, .str e.2]), beh]) pg ss]
theorem found_dat {pg : Pg} {n : Int} {v : Sv} {c : Int} (hr : dat 8 (restD v) = true) (hp : ∀ e ∈ pg, PyData.strOk e.2 = true) : dat 8 (foundD pg n v c) = true := by
  have h : dat 7 (.tup (v.nms.map .str)) = true ∧ dat 7 v.beh = true := by
    have : (([.tup (v.nms.map .str), v.beh] : List D).all (dat 7)) = true := by simpa only [dat] using hr
    rw [List.all_cons, List.all_cons, Bool.and_eq_true, Bool.and_eq_true] at this
    exact ⟨this.1, this.2.1⟩
  have hn : ∀ x ∈ v.nms, PyData.strOk x = true := fun x hx => by
    have : (v.nms.map D.str).all (dat 6) = true := by simpa only [dat] using h.1
    have := List.all_eq_true.mp this (.str x) (List.mem_map.mpr ⟨x, hx, rfl⟩)
    simpa only [dat] using this
  have hpr : dat 7 (pairsD pg n v.nms) = true := by
    unfold pairsD
    have : (v.nms.map fun x => D.tup [.str x, .str ((getA pg (n, x)).getD "")]).all (dat 6) = true := List.all_eq_true.mpr fun d hd => by
      obtain ⟨x, hx, rfl⟩ := List.mem_map.mp hd
      have h2 : PyData.strOk ((getA pg (n, x)).getD "") = true := by
        cases hg : getA pg (n, x) with
        | none => decide +kernel
        | some t => exact hp _ (getA_mem hg)
      simp only [dat, List.all_cons, List.all_nil, Bool.and_true, Bool.and_eq_true]
      exact ⟨hn x hx, h2⟩
    simpa only [dat] using this
  show dat 8 (.tup [.int n, .int c, .int ((getA v.tms c).getD 0), pairsD pg n v.nms, v.beh]) = true
  have : (([.int n, .int c, .int ((getA v.tms c).getD 0), pairsD pg n v.nms, v.beh] : List D).all (dat 7)) = true := by
    rw [List.all_cons, List.all_cons, List.all_cons, List.all_cons, List.all_cons, hpr, h.2]
    rfl
  simpa only [dat] using this
theorem gt_tr {n c m d a b : Int} (h : ¬ gtP m d a b) (g : gtP n c a b) : ¬ gtP m d n c := by unfold gtP at *; omega
theorem gt_asy {n c a b : Int} (g : gtP n c a b) : ¬ gtP a b n c := by unfold gtP at *; omega
theorem gt_le {n c a b m d : Int} (h : ¬ gtP m d a b) (g : gtP n c a b) : ¬ gtP m d n c := gt_tr h g
theorem gt_irr (n c : Int) : ¬ gtP n c n c := by unfold gtP; omega

/-! ### versions, and what their letters lead to -/
theorem strs_inj : ∀ {l m : List Str}, l.map D.str = m.map D.str → l = m
  | [], [], _ => rfl
  | [], _ :: _, h => by cases h
  | _ :: _, [], h => by cases h
  | a :: l, b :: m, h => by
    rw [List.map_cons, List.map_cons] at h
    obtain ⟨h1, h2⟩ := List.cons.inj h
    rw [D.str.inj h1, strs_inj h2]
structure Ver where
  n : Int
  c : Int
  t : Int
  pgs : List (Str × Str)
  beh : List Str
abbrev pgD (l : List (Str × Str)) : D := .tup (l.map fun e => .tup [.str e.1, .str e.2])
abbrev beh1 (x : Str) : D := .tup [.str (x ++ "z"), .tup [.str "failed", .str x]]
abbrev behD (l : List Str) : D := .tup (l.map beh1)
abbrev verD (v : Ver) : D := .tup [.int v.n, .int v.c, .int v.t, pgD v.pgs, behD v.beh]
abbrev v0 : Ver := ⟨0, 0, 0, [], []⟩
structure VGood (v : Ver) : Prop where
  nm : ∀ e ∈ v.pgs, e.1 ∈ names8 ∧ okS e.2 = true ∧ e.2.length ≤ 10
  nd : (v.pgs.map (·.1)).Nodup
  len : v.pgs.length ≤ 6
  bh : v.beh.length ≤ 6 ∧ ∀ x ∈ v.beh, x ∈ names8
  pos : 1 ≤ v.n ∧ 1 ≤ v.c ∧ 0 ≤ v.t
  bd : v.n ≤ 10 ∧ v.c ≤ 100 ∧ v.t ≤ 1000
structure VsOk (vs : List Ver) : Prop where
  good : ∀ v ∈ vs, VGood v
  pw : vs.Pairwise fun v u => v.c < u.c ∧ v.n ≤ u.n ∧ (v.n = u.n → v.pgs = u.pgs ∧ v.beh = u.beh)
  len : vs.length ≤ 5
theorem pw_or {α : Type} {R : α → α → Prop} : ∀ {l : List α}, l.Pairwise R → ∀ x ∈ l, ∀ y ∈ l, x = y ∨ R x y ∨ R y x
  | [], _, _, h, _, _ => absurd h List.not_mem_nil
  | a :: l, h, x, hx, y, hy => by
    have h' := List.pairwise_cons.mp h
    rcases List.mem_cons.mp hx with ex | hx1
    · rcases List.mem_cons.mp hy with ey | hy1
      · exact .inl (ex.trans ey.symm)
      · exact .inr (.inl (by rw [ex]; exact h'.1 y hy1))
    · rcases List.mem_cons.mp hy with ey | hy1
      · exact .inr (.inr (by rw [ey]; exact h'.1 x hx1))
      · exact pw_or h'.2 x hx1 y hy1
theorem VsOk.same {vs : List Ver} (h : VsOk vs) {v u : Ver} (hv : v ∈ vs) (hu : u ∈ vs) (e : v.n = u.n) : v.pgs = u.pgs ∧ v.beh = u.beh := by
  rcases pw_or h.pw v hv u hu with rfl | z | z
  · exact ⟨rfl, rfl⟩
  · exact z.2.2 e
  · exact ⟨(z.2.2 e.symm).1.symm, (z.2.2 e.symm).2.symm⟩
theorem VsOk.one {vs : List Ver} (h : VsOk vs) {v u : Ver} (hv : v ∈ vs) (hu : u ∈ vs) (e : v.c = u.c) : v = u := by
  rcases pw_or h.pw v hv u hu with rfl | z | z
  · rfl
  · have := z.1; omega
  · have := z.1; omega
def letV (v : Ver) : List Lt := v.pgs.map (fun e => .page v.n e.1 e.2) ++ [.slt v.n v.c v.t (v.pgs.map (·.1)) (behD v.beh)]
theorem letV_page {v : Ver} {n : Int} {x t : Str} : .page n x t ∈ letV v ↔ v.n = n ∧ (x, t) ∈ v.pgs := by
  unfold letV
  rw [List.mem_append, List.mem_map, List.mem_singleton]
  constructor
  · rintro (⟨e, he, z⟩ | z)
    · cases z
      exact ⟨rfl, he⟩
    · cases z
  · rintro ⟨rfl, h⟩
    exact .inl ⟨(x, t), h, rfl⟩
theorem letV_slt {v : Ver} {n c t : Int} {nms : List Str} {beh : D} : .slt n c t nms beh ∈ letV v ↔ v.n = n ∧ v.c = c ∧ v.t = t ∧ nms = v.pgs.map (·.1) ∧ beh = behD v.beh := by
  unfold letV
  rw [List.mem_append, List.mem_map, List.mem_singleton]
  constructor
  · rintro (⟨e, he, z⟩ | z)
    · cases z
    · cases z
      exact ⟨rfl, rfl, rfl, rfl, rfl⟩
  · rintro ⟨rfl, rfl, rfl, rfl, rfl⟩
    exact .inr rfl
theorem nms_ok {x : Str} (h : x ∈ names8) : PyData.strOk x = true := okS_str (names8_ok x h).1
theorem dat_beh {l : List Str} (h : ∀ x ∈ l, x ∈ names8) : dat 7 (behD l) = true := by
  have : (l.map beh1).all (dat 6) = true := List.all_eq_true.mpr fun d hd => by
    obtain ⟨x, hx, rfl⟩ := List.mem_map.mp hd
    have h1 : PyData.strOk (x ++ "z") = true := okS_str (by rw [okS_add, (names8_ok x (h x hx)).1]; rfl)
    have h2 := nms_ok (h x hx)
    have h3 : PyData.strOk (Str.ofString "failed") = true := by decide +kernel
    simp only [dat, List.all_cons, List.all_nil, Bool.and_true, Bool.and_eq_true]
    exact ⟨h1, h3, h2⟩
  simpa only [dat] using this
theorem dat_nms {n : Nat} {l : List Str} (h : ∀ x ∈ l, PyData.strOk x = true) : dat (n + 1) (.tup (l.map .str)) = true := by
  simp only [dat, List.all_eq_true]
  intro d hd
  obtain ⟨x, hx, rfl⟩ := List.mem_map.mp hd
  simp only [dat]
  exact h x hx
theorem ltOk_dat {l : Lt} (h : LtOk l) : dat 8 (ltD l) = true := by
  cases l with
  | page n x t =>
    have h1 : PyData.strOk (Str.ofString "page") = true := by decide +kernel
    simp only [ltD, dat, List.all_cons, List.all_nil, Bool.and_true, Bool.and_eq_true, Bool.true_and]
    exact ⟨h1, h.1, h.2⟩
  | slt n c t nms beh =>
    have h0 := h.1
    have h2 : (([.tup (nms.map .str), beh] : List D).all (dat 7)) = true := by simpa only [dat] using h0
    rw [List.all_cons, List.all_cons, Bool.and_eq_true, Bool.and_eq_true] at h2
    have : (([.str "seal", .int n, .int c, .int t, .tup (nms.map .str), beh] : List D).all (dat 7)) = true := by
      have h1 : PyData.strOk (Str.ofString "seal") = true := by decide +kernel
      have h3 : dat 7 (.str "seal") = true := by simpa only [dat] using h1
      rw [List.all_cons, List.all_cons, List.all_cons, List.all_cons, List.all_cons, List.all_cons, List.all_nil, h2.1, h2.2.1, h3]
      simp [dat]
    show dat 8 (.tup [.str "seal", .int n, .int c, .int t, .tup (nms.map .str), beh]) = true
    simpa only [dat] using this
theorem letV_ok {v : Ver} (h : VGood v) : ∀ l ∈ letV v, LtOk l := by
  intro l hl
  cases l with
  | page n x t =>
    obtain ⟨_, h2⟩ := letV_page.mp hl
    have := h.nm _ h2
    exact ⟨nms_ok this.1, okS_str this.2.1⟩
  | slt n c t nms beh =>
    obtain ⟨_, _, _, rfl, rfl⟩ := letV_slt.mp hl
    refine ⟨?_, by rw [List.length_map]; have := h.len; omega⟩
    have h1 : dat 7 (.tup ((v.pgs.map (·.1)).map .str)) = true := dat_nms fun x hx => by
      obtain ⟨e, he, rfl⟩ := List.mem_map.mp hx
      exact nms_ok (h.nm e he).1
    have h2 := dat_beh h.bh.2
    have : (([.tup ((v.pgs.map (·.1)).map .str), behD v.beh] : List D).all (dat 7)) = true := by
      rw [List.all_cons, List.all_cons, h1, h2]
      rfl
    simpa only [dat] using this
theorem ltD_inj {l m : Lt} (h : ltD l = ltD m) : l = m := by
  cases l with
  | page n x t =>
    cases m with
    | page n' x' t' =>
      simp only [ltD, D.tup.injEq, List.cons.injEq, D.int.injEq, D.str.injEq, and_true, true_and] at h
      obtain ⟨rfl, rfl, rfl⟩ := h
      rfl
    | slt => simp only [ltD, D.tup.injEq, List.cons.injEq] at h; exact absurd (D.str.inj h.1) (by decide +kernel)
  | slt n c t nms beh =>
    cases m with
    | page => simp only [ltD, D.tup.injEq, List.cons.injEq] at h; exact absurd (D.str.inj h.1) (by decide +kernel)
    | slt n' c' t' nms' beh' =>
      simp only [ltD, D.tup.injEq, List.cons.injEq, D.int.injEq, D.str.injEq, and_true, true_and] at h
      obtain ⟨rfl, rfl, rfl, h1, rfl⟩ := h
      rw [strs_inj h1]
/-- whether a letter was heard, as the program asks -/
def memB (hs : List Lt) (l : Lt) : Bool := (hs.map ltD).any fun d => eqD d (ltD l)
theorem memB_iff {hs : List Lt} {l : Lt} (h : ∀ m ∈ hs, LtOk m) (hl : LtOk l) : memB hs l = true ↔ l ∈ hs := by
  unfold memB
  rw [List.any_eq_true]
  constructor
  · rintro ⟨d, hd, e⟩
    obtain ⟨m, hm, rfl⟩ := List.mem_map.mp hd
    rw [← ltD_inj ((eqD_iff (ltOk_dat (h m hm)) (ltOk_dat hl)).mp e)]
    exact hm
  · intro hm
    exact ⟨ltD l, List.mem_map.mpr ⟨l, hm, rfl⟩, (eqD_iff (ltOk_dat hl) (ltOk_dat hl)).mpr rfl⟩
def compB (hs : List Lt) (v : Ver) : Bool := (letV v).all (memB hs)
def stepV (hs : List Lt) (f v : Ver) : Ver := if (compB hs v && decide (f.n < v.n ∨ (v.n = f.n ∧ f.c < v.c))) = true then v else f
def shownV (hs : List Lt) (vs : List Ver) : Ver := vs.foldl (stepV hs) v0
def Best (hs : List Lt) (ps : List Ver) (u : Ver) : Prop := (u = v0 ∧ ∀ v ∈ ps, compB hs v = false) ∨ (u ∈ ps ∧ compB hs u = true ∧ ∀ v ∈ ps, compB hs v = true → ¬ gtP v.n v.c u.n u.c)
theorem best_step {hs : List Lt} {ps : List Ver} {u v : Ver} (h : Best hs ps u) (hv : 1 ≤ v.n) : Best hs (ps ++ [v]) (stepV hs u v) := by
  have mem : ∀ x, x ∈ ps ++ [v] → x ∈ ps ∨ x = v := fun x hx => (List.mem_append.mp hx).imp_right List.mem_singleton.mp
  unfold stepV
  split
  · rename_i hc
    rw [Bool.and_eq_true, decide_eq_true_eq] at hc
    refine .inr ⟨List.mem_append_right _ List.mem_cons_self, hc.1, fun x hx hxc => ?_⟩
    rcases mem x hx with z | z
    · rcases h with ⟨_, h2⟩ | ⟨_, _, h3⟩
      · rw [h2 x z] at hxc; cases hxc
      · have := h3 x z hxc
        have h4 := hc.2
        unfold gtP at *
        omega
    · rw [z]; exact gt_irr _ _
  · rename_i hc
    rcases h with ⟨rfl, h2⟩ | ⟨h1, h2, h3⟩
    · refine .inl ⟨rfl, fun x hx => ?_⟩
      rcases mem x hx with z | z
      · exact h2 x z
      · rw [z]
        cases hcv : compB hs v with
        | false => rfl
        | true =>
          exfalso
          apply hc
          rw [hcv, Bool.true_and, decide_eq_true_eq]
          exact .inl (by show 0 < v.n; omega)
    · refine .inr ⟨List.mem_append_left _ h1, h2, fun x hx hxc => ?_⟩
      rcases mem x hx with z | z
      · exact h3 x z hxc
      · rw [z] at hxc ⊢
        intro hgt
        apply hc
        rw [hxc, Bool.true_and, decide_eq_true_eq]
        unfold gtP at hgt
        omega
theorem best_fold {hs : List Lt} : ∀ (l ps : List Ver) (u : Ver), Best hs ps u → (∀ v ∈ l, 1 ≤ v.n) → Best hs (ps ++ l) (l.foldl (stepV hs) u)
  | [], ps, u, h, _ => by rw [List.append_nil]; exact h
  | v :: l, ps, u, h, hl => by
    have := best_fold l (ps ++ [v]) (stepV hs u v) (best_step h (hl v List.mem_cons_self)) fun x hx => hl x (List.mem_cons_of_mem _ hx)
    rw [List.append_assoc] at this
    exact this
theorem shown_best {hs : List Lt} {vs : List Ver} (h : VsOk vs) : Best hs vs (shownV hs vs) := by
  have := best_fold (hs := hs) vs [] v0 (.inl ⟨rfl, fun _ h => absurd h List.not_mem_nil⟩) fun v hv => (h.good v hv).pos.1
  rwa [List.nil_append] at this
/-- the mirror and what it heard -/
structure MI (vs : List Ver) (hs : List Lt) (pg : Pg) (ss : Sls) (a b : Int) (sh : D) : Prop where
  sub : ∀ l ∈ hs, ∃ v ∈ vs, l ∈ letV v
  pgs : ∀ n x t, getA pg (n, x) = some t ↔ .page n x t ∈ hs
  sl1 : ∀ n v, getA ss n = some v → ∃ u ∈ vs, u.n = n ∧ v.nms = u.pgs.map (·.1) ∧ v.beh = behD u.beh
  sl2 : ∀ n v, getA ss n = some v → ∀ c t, getA v.tms c = some t ↔ .slt n c t v.nms v.beh ∈ hs
  sl3 : ∀ n c t nms beh, .slt n c t nms beh ∈ hs → ∃ v, getA ss n = some v
  sl4 : ∀ n v, getA ss n = some v → ∃ c, c ∈ v.tms.map (·.1)
  best : sh = verD (shownV hs vs) ∧ (((∀ v ∈ vs, compB hs v = false) ∧ a = -1 ∧ b = -1) ∨ (shownV hs vs ∈ vs ∧ compB hs (shownV hs vs) = true ∧ a = (shownV hs vs).n ∧ b = (shownV hs vs).c))
theorem max_of : ∀ l : List Int, l ≠ [] → ∃ m ∈ l, ∀ y ∈ l, y ≤ m
  | [], h => absurd rfl h
  | [x], _ => ⟨x, List.mem_cons_self, fun y hy => by rw [List.mem_singleton.mp hy]; exact Int.le_refl _⟩
  | x :: y :: l, _ => by
    obtain ⟨m, hm, h⟩ := max_of (y :: l) (by simp)
    by_cases hx : x ≤ m
    · exact ⟨m, List.mem_cons_of_mem _ hm, fun z hz => by
        rcases List.mem_cons.mp hz with rfl | hz
        · exact hx
        · exact h z hz⟩
    · exact ⟨x, List.mem_cons_self, fun z hz => by
        rcases List.mem_cons.mp hz with rfl | hz
        · exact Int.le_refl _
        · have := h z hz; omega⟩
section
variable {vs : List Ver} {hs : List Lt} {pg : Pg} {ss : Sls}
/-- the pages and the seals tell just what was heard -/
structure MH (vs : List Ver) (hs : List Lt) (pg : Pg) (ss : Sls) : Prop where
  sub : ∀ l ∈ hs, ∃ v ∈ vs, l ∈ letV v
  pgs : ∀ n x t, getA pg (n, x) = some t ↔ .page n x t ∈ hs
  sl1 : ∀ n v, getA ss n = some v → ∃ u ∈ vs, u.n = n ∧ v.nms = u.pgs.map (·.1) ∧ v.beh = behD u.beh
  sl2 : ∀ n v, getA ss n = some v → ∀ c t, getA v.tms c = some t ↔ .slt n c t v.nms v.beh ∈ hs
  sl3 : ∀ n c t nms beh, .slt n c t nms beh ∈ hs → ∃ v, getA ss n = some v
  sl4 : ∀ n v, getA ss n = some v → ∃ c, c ∈ v.tms.map (·.1)
theorem MI.mh {a b : Int} {sh : D} (h : MI vs hs pg ss a b sh) : MH vs hs pg ss := ⟨h.sub, h.pgs, h.sl1, h.sl2, h.sl3, h.sl4⟩
theorem nd_fst {l : List (Str × Str)} (h : (l.map (·.1)).Nodup) {x t u : Str} (h1 : (x, t) ∈ l) (h2 : (x, u) ∈ l) : t = u := by
  induction l with
  | nil => cases h1
  | cons e l ih =>
    have h' := List.nodup_cons.mp h
    rcases List.mem_cons.mp h1 with g1 | g1
    · rcases List.mem_cons.mp h2 with g2 | g2
      · rw [← g1] at g2
        exact (Prod.mk.inj g2).2.symm
      · exact absurd (List.mem_map.mpr ⟨_, g2, rfl⟩) (by rw [← g1] at h'; exact h'.1)
    · rcases List.mem_cons.mp h2 with g2 | g2
      · exact absurd (List.mem_map.mpr ⟨_, g1, rfl⟩) (by rw [← g2] at h'; exact h'.1)
      · exact ih h'.2 g1 g2
theorem MH.ok (h : MH vs hs pg ss) (hv : VsOk vs) : ∀ m ∈ hs, LtOk m := fun m hm => by
  obtain ⟨v, h1, h2⟩ := h.sub m hm
  exact letV_ok (hv.good v h1) m h2
theorem comp_iff (h : MH vs hs pg ss) (hv : VsOk vs) {u : Ver} (hu : u ∈ vs) : compB hs u = true ↔ ∀ l ∈ letV u, l ∈ hs := by
  unfold compB
  rw [List.all_eq_true]
  exact ⟨fun g l hl => (memB_iff (h.ok hv) (letV_ok (hv.good u hu) l hl)).mp (g l hl), fun g l hl => (memB_iff (h.ok hv) (letV_ok (hv.good u hu) l hl)).mpr (g l hl)⟩
theorem seal_of (h : MH vs hs pg ss) (hv : VsOk vs) {u : Ver} (hu : u ∈ vs) {v : Sv} (hg : getA ss u.n = some v) : v.nms = u.pgs.map (·.1) ∧ v.beh = behD u.beh := by
  obtain ⟨w, h1, h2, h3, h4⟩ := h.sl1 _ _ hg
  obtain ⟨e1, e2⟩ := hv.same h1 hu h2
  rw [h3, h4, e1, e2]
  exact ⟨rfl, rfl⟩
theorem full_iff (h : MH vs hs pg ss) (hv : VsOk vs) {u : Ver} (hu : u ∈ vs) {v : Sv} (hg : getA ss u.n = some v) : isFull pg u.n v = true ↔ ∀ e ∈ u.pgs, Lt.page u.n e.1 e.2 ∈ hs := by
  obtain ⟨e1, e2⟩ := seal_of h hv hu hg
  unfold isFull txts
  rw [List.all_eq_true, e1]
  constructor
  · intro g e he
    have g1 := g (getA pg (u.n, e.1)) (List.mem_map.mpr ⟨e.1, List.mem_map.mpr ⟨e, he, rfl⟩, rfl⟩)
    obtain ⟨t, ht⟩ := Option.isSome_iff_exists.mp g1
    have g2 := (h.pgs _ _ _).mp ht
    obtain ⟨w, hw, g3⟩ := h.sub _ g2
    obtain ⟨g4, g5⟩ := letV_page.mp g3
    rw [(hv.same hw hu g4).1] at g5
    rw [nd_fst (hv.good u hu).nd (show (e.1, e.2) ∈ u.pgs from he) g5]
    exact g2
  · intro g o ho
    obtain ⟨x, hx, rfl⟩ := List.mem_map.mp ho
    obtain ⟨e, he, rfl⟩ := List.mem_map.mp hx
    rw [(h.pgs _ _ _).mpr (g e he)]
    rfl
theorem comp_sl (h : MH vs hs pg ss) (hv : VsOk vs) {u : Ver} (hu : u ∈ vs) : compB hs u = true ↔ ∃ v, getA ss u.n = some v ∧ isFull pg u.n v = true ∧ getA v.tms u.c = some u.t := by
  rw [comp_iff h hv hu]
  constructor
  · intro g
    have g1 := g (.slt u.n u.c u.t (u.pgs.map (·.1)) (behD u.beh)) (letV_slt.mpr ⟨rfl, rfl, rfl, rfl, rfl⟩)
    obtain ⟨v, hg⟩ := h.sl3 _ _ _ _ _ g1
    obtain ⟨e1, e2⟩ := seal_of h hv hu hg
    refine ⟨v, hg, (full_iff h hv hu hg).mpr fun e he => g _ (letV_page.mpr ⟨rfl, he⟩), (h.sl2 _ _ hg _ _).mpr ?_⟩
    rw [e1, e2]
    exact g1
  · rintro ⟨v, hg, hf, ht⟩ l hl
    obtain ⟨e1, e2⟩ := seal_of h hv hu hg
    cases l with
    | page n x t =>
      obtain ⟨rfl, g2⟩ := letV_page.mp hl
      exact (full_iff h hv hu hg).mp hf (x, t) g2
    | slt n c t nms beh =>
      obtain ⟨rfl, rfl, rfl, rfl, rfl⟩ := letV_slt.mp hl
      have := (h.sl2 _ _ hg _ _).mp ht
      rw [e1, e2] at this
      exact this
/-- each complete number is a complete version -/
theorem cand_ver (h : MH vs hs pg ss) (hv : VsOk vs) {n c : Int} {v : Sv} (hg : getA ss n = some v) (hf : isFull pg n v = true) (hc : c ∈ v.tms.map (·.1)) : ∃ w ∈ vs, compB hs w = true ∧ w.n = n ∧ w.c = c ∧ foundD pg n v c = verD w := by
  obtain ⟨t, ht⟩ := getA_some hc
  have h1 := (h.sl2 _ _ hg _ _).mp ht
  obtain ⟨w, hw, h2⟩ := h.sub _ h1
  obtain ⟨rfl, rfl, rfl, h3, h4⟩ := letV_slt.mp h2
  refine ⟨w, hw, (comp_sl h hv hw).mpr ⟨v, hg, hf, ht⟩, rfl, rfl, ?_⟩
  have hp := (full_iff h hv hw hg).mp hf
  show D.tup [.int w.n, .int w.c, .int ((getA v.tms w.c).getD 0), pairsD pg w.n v.nms, v.beh] = .tup [.int w.n, .int w.c, .int w.t, pgD w.pgs, behD w.beh]
  rw [ht, h4, h3]
  unfold pairsD
  rw [List.map_map]
  have : (w.pgs.map ((fun x => D.tup [.str x, .str ((getA pg (w.n, x)).getD "")]) ∘ fun e => e.1)) = w.pgs.map fun e => D.tup [.str e.1, .str e.2] := List.map_congr_left fun e he => by
    show D.tup [.str e.1, .str ((getA pg (w.n, e.1)).getD "")] = _
    rw [(h.pgs _ _ _).mpr (hp e he)]
    rfl
  rw [this]
  rfl
theorem mh_next (h : MH vs hs pg ss) (hv : VsOk vs) {l : Lt} {u : Ver} (hu : u ∈ vs) (hl : l ∈ letV u) {pg' : Pg} {ss' : Sls} (hh : Heard pg ss l pg' ss') : MH vs (hs ++ [l]) pg' ss' := by
  have mem : ∀ x, x ∈ hs ++ [l] ↔ x ∈ hs ∨ x = l := fun x => by rw [List.mem_append, List.mem_singleton]
  have sub : ∀ m ∈ hs ++ [l], ∃ v ∈ vs, m ∈ letV v := fun m hm => by
    rcases (mem m).mp hm with z | z
    · exact h.sub m z
    · rw [z]; exact ⟨u, hu, hl⟩
  cases hh with
  | @page n x t g =>
    refine ⟨sub, fun n' x' t' => ?_, h.sl1, fun n' v hg c t' => ?_, fun n' c t' nms beh hm => ?_, h.sl4⟩
    · rw [getA_put, mem]
      by_cases e : (n', x') = (n, x)
      · rw [if_pos e]
        obtain ⟨rfl, rfl⟩ := Prod.mk.inj e
        constructor
        · intro z
          cases z
          exact .inr rfl
        · rintro (z | z)
          · have z := (h.pgs _ _ _).mpr z
            rcases g with g | g
            · rw [g] at z; cases z
            · rw [g] at z; exact z
          · cases z
            rfl
      · rw [if_neg e, h.pgs]
        constructor
        · exact .inl
        · rintro (z | z)
          · exact z
          · cases z
            exact absurd rfl e
    · rw [mem, h.sl2 n' v hg]
      constructor
      · exact .inl
      · rintro (z | z)
        · exact z
        · cases z
    · rcases (mem _).mp hm with z | z
      · exact h.sl3 _ _ _ _ _ z
      · cases z
  | @new n c t nms beh q g =>
    obtain ⟨rfl, rfl, rfl, rfl, rfl⟩ := letV_slt.mp hl
    refine ⟨sub, fun n' x' t' => ?_, fun n' v hg => ?_, fun n' v hg c t' => ?_, fun n' c t' nms beh hm => ?_, fun n' v hg => ?_⟩
    · rw [h.pgs, mem]
      exact ⟨.inl, fun z => z.elim id fun z => by cases z⟩
    · rw [getA_put] at hg
      split at hg
      · rename_i e
        cases hg
        exact ⟨u, hu, e.symm, rfl, rfl⟩
      · exact h.sl1 n' v hg
    · rw [getA_put] at hg
      split at hg
      · rename_i e
        cases hg
        subst e
        rw [mem, getA_cons]
        show (if u.c = c then some u.t else getA [] c) = some t' ↔ _
        constructor
        · intro z
          split at z
          · rename_i e2
            cases z
            rw [e2]
            exact .inr rfl
          · cases z
        · rintro (z | z)
          · obtain ⟨v', hv'⟩ := h.sl3 _ _ _ _ _ z
            rw [g] at hv'
            cases hv'
          · cases z
            rw [if_pos rfl]
      · rename_i e
        rw [mem, h.sl2 n' v hg]
        exact ⟨.inl, fun z => z.elim id fun z => by injection z with z1; exact absurd z1 e⟩
    · rw [getA_put]
      split
      · exact ⟨_, rfl⟩
      · rename_i e
        rcases (mem _).mp hm with z | z
        · exact h.sl3 _ _ _ _ _ z
        · cases z
          exact absurd rfl e
    · rw [getA_put] at hg
      split at hg
      · cases hg
        exact ⟨u.c, List.mem_cons_self⟩
      · exact h.sl4 n' v hg
  | @old n c t nms beh v g g2 g3 =>
    obtain ⟨rfl, rfl, rfl, rfl, rfl⟩ := letV_slt.mp hl
    obtain ⟨e1, e2⟩ := seal_of h hv hu g
    refine ⟨sub, fun n' x' t' => ?_, fun n' v' hg => ?_, fun n' v' hg c t' => ?_, fun n' c t' nms beh hm => ?_, fun n' v' hg => ?_⟩
    · rw [h.pgs, mem]
      exact ⟨.inl, fun z => z.elim id fun z => by cases z⟩
    · rw [getA_put] at hg
      split at hg
      · rename_i e
        cases hg
        exact ⟨u, hu, e.symm, e1, e2⟩
      · exact h.sl1 n' v' hg
    · rw [getA_put] at hg
      split at hg
      · rename_i e
        cases hg
        subst e
        show getA (putA v.tms u.c u.t) c = some t' ↔ Lt.slt u.n c t' v.nms v.beh ∈ _
        rw [mem, getA_put]
        constructor
        · intro z
          split at z
          · rename_i e3
            cases z
            rw [e3, e1, e2]
            exact .inr rfl
          · exact .inl ((h.sl2 _ _ g _ _).mp z)
        · rintro (z | z)
          · have z := (h.sl2 _ _ g _ _).mpr z
            split
            · rename_i e3
              subst e3
              rcases g3 with g3 | g3
              · rw [g3] at z; cases z
              · rw [g3] at z; exact z
            · exact z
          · injection z with _ z1 z2
            rw [if_pos z1, z2]
      · rename_i e
        rw [mem, h.sl2 n' v' hg]
        exact ⟨.inl, fun z => z.elim id fun z => by injection z with z1; exact absurd z1 e⟩
    · rw [getA_put]
      split
      · exact ⟨_, rfl⟩
      · rename_i e
        rcases (mem _).mp hm with z | z
        · exact h.sl3 _ _ _ _ _ z
        · cases z
          exact absurd rfl e
    · rw [getA_put] at hg
      split at hg
      · cases hg
        obtain ⟨c0, h0⟩ := h.sl4 _ _ g
        refine ⟨c0, ?_⟩
        show c0 ∈ (putA v.tms u.c u.t).map (·.1)
        rw [keys_putA]
        split
        · exact h0
        · exact List.mem_append_left _ h0
      · exact h.sl4 n' v' hg
theorem mi_next {a b a' b' : Int} {sh sh' : D} (hm : MI vs hs pg ss a b sh) (hv : VsOk vs) {l : Lt} {u : Ver} (hu : u ∈ vs) (hl : l ∈ letV u) {pg' : Pg} {ss' : Sls} (hh : Heard pg ss l pg' ss') (ho : Out pg' ss' a b sh a' b' sh') : MI vs (hs ++ [l]) pg' ss' a' b' sh' := by
  have h := mh_next hm.mh hv hu hl hh
  refine ⟨h.sub, h.pgs, h.sl1, h.sl2, h.sl3, h.sl4, ?_⟩
  have mono : ∀ v ∈ vs, compB hs v = true → compB (hs ++ [l]) v = true := fun v hvv hc => (comp_iff h hv hvv).mpr fun m hmm => List.mem_append_left _ ((comp_iff hm.mh hv hvv).mp hc m hmm)
  have top : ∀ v ∈ vs, compB (hs ++ [l]) v = true → ¬ gtP v.n v.c a' b' := fun v hvv hc => by
    obtain ⟨s, g1, g2, g3⟩ := (comp_sl h hv hvv).mp hc
    have hk : v.c ∈ s.tms.map (·.1) := List.mem_map.mpr ⟨_, getA_mem g3, rfl⟩
    obtain ⟨m, hm1, hm2⟩ := max_of (s.tms.map (·.1)) (fun z => by rw [z] at hk; cases hk)
    have h3 := ho.max _ _ m g1 g2 ⟨hm1, hm2⟩
    have h4 := hm2 _ hk
    unfold gtP at *
    omega
  have new : (a' = a ∧ b' = b ∧ sh' = sh) ∨ ∃ w ∈ vs, compB (hs ++ [l]) w = true ∧ a' = w.n ∧ b' = w.c ∧ sh' = verD w := by
    rcases ho.is with z | ⟨n, s, c, g1, g2, g3, rfl, rfl, rfl⟩
    · exact .inl z
    · obtain ⟨w, hw, hc, e1, e2, e3⟩ := cand_ver h hv g1 g2 g3.1
      exact .inr ⟨w, hw, hc, e1.symm, e2.symm, e3⟩
  have old := hm.best
  rcases shown_best (hs := hs ++ [l]) hv with ⟨h1, h2⟩ | ⟨h1, h2, h3⟩
  · rcases new with ⟨rfl, rfl, rfl⟩ | ⟨w, hw, hc, _⟩
    · rcases old with ⟨o1, ⟨o2, o3, o4⟩ | ⟨o2, o3, _⟩⟩
      · refine ⟨?_, .inl ⟨h2, o3, o4⟩⟩
        rw [h1, o1]
        rcases shown_best (hs := hs) hv with ⟨z, _⟩ | ⟨z, z2, _⟩
        · rw [z]
        · rw [o2 _ z] at z2; cases z2
      · have := mono _ o2 o3
        rw [h2 _ o2] at this
        cases this
    · rw [h2 w hw] at hc; cases hc
  · have key : ∀ w ∈ vs, compB (hs ++ [l]) w = true → a' = w.n → b' = w.c → w = shownV (hs ++ [l]) vs := fun w hw hc e1 e2 => by
      have k1 := h3 w hw hc
      have k2 := top _ h1 h2
      subst e1 e2
      refine hv.one hw h1 ?_
      unfold gtP at k1 k2
      omega
    rcases new with ⟨rfl, rfl, rfl⟩ | ⟨w, hw, hc, e1, e2, e3⟩
    · rcases old with ⟨o1, ⟨o2, o3, o4⟩ | ⟨o2, o3, o4, o5⟩⟩
      · exfalso
        have := top _ h1 h2
        have := (hv.good _ h1).pos.1
        subst o3 o4
        unfold gtP at *
        omega
      · have e := key _ o2 (mono _ o2 o3) o4 o5
        refine ⟨by rw [o1, e], .inr ⟨h1, h2, ?_, ?_⟩⟩
        · rw [o4, e]
        · rw [o5, e]
    · have e := key w hw hc e1 e2
      refine ⟨by rw [e3, e], .inr ⟨h1, h2, by rw [e1, e], by rw [e2, e]⟩⟩
theorem mi_0 (hv : VsOk vs) : MI vs [] [] [] (-1) (-1) (verD v0) := by
  have hc : ∀ v ∈ vs, compB [] v = false := fun v _ => by
    cases h : compB [] v with
    | false => rfl
    | true =>
      unfold compB at h
      have := List.all_eq_true.mp h (.slt v.n v.c v.t (v.pgs.map (·.1)) (behD v.beh)) (letV_slt.mpr ⟨rfl, rfl, rfl, rfl, rfl⟩)
      cases this
  refine ⟨fun _ h => absurd h List.not_mem_nil, fun _ _ _ => ⟨fun h => (by cases h), fun h => absurd h List.not_mem_nil⟩, fun _ _ h => (by cases h), fun _ _ h => (by cases h), fun _ _ _ _ _ h => absurd h List.not_mem_nil, fun _ _ h => (by cases h), ?_, .inl ⟨hc, rfl, rfl⟩⟩
  rcases shown_best (hs := []) hv with ⟨z, _⟩ | ⟨z, z2, _⟩
  · rw [z]
  · rw [hc _ z] at z2; cases z2
theorem not_refused (h : MH vs hs pg ss) (hv : VsOk vs) {l : Lt} {u : Ver} (hu : u ∈ vs) (hl : l ∈ letV u) : ¬ Refused pg ss l := by
  cases l with
  | page n x t =>
    rintro ⟨t', h1, h2⟩
    obtain ⟨rfl, g2⟩ := letV_page.mp hl
    have h3 := (h.pgs _ _ _).mp h1
    obtain ⟨w, hw, g3⟩ := h.sub _ h3
    obtain ⟨g4, g5⟩ := letV_page.mp g3
    rw [(hv.same hw hu g4).1] at g5
    exact h2 (nd_fst (hv.good u hu).nd g5 g2)
  | slt n c t nms beh =>
    obtain ⟨rfl, rfl, rfl, rfl, rfl⟩ := letV_slt.mp hl
    rintro ⟨v, g, z⟩
    obtain ⟨e1, e2⟩ := seal_of h hv hu g
    rcases z with z | ⟨t', h1, h2⟩
    · exact z (by show D.tup [.tup (v.nms.map .str), v.beh] = _; rw [e1, e2])
    · have h3 := (h.sl2 _ _ g _ _).mp h1
      obtain ⟨w, hw, g3⟩ := h.sub _ h3
      obtain ⟨_, g4, g5, _⟩ := letV_slt.mp g3
      have := hv.one hw hu g4
      subst this
      exact h2 g5.symm
/-- a letter that is unlike one that was heard -/
inductive Unl : Lt → Lt → Prop
  | page {n : Int} {x t : Str} : Unl (.page n x t) (.page n x (t ++ "x"))
  | s0 {n c t : Int} {nms : List Str} {beh : D} : Unl (.slt n c t nms beh) (.slt n c t (nms ++ [("zzz" : Str)]) beh)
  | s1 {n c t r : Int} {nms : List Str} {bs : List D} {d : D} : Unl (.slt n c t nms (.tup bs)) (.slt n (c + r) t nms (.tup (bs ++ [d])))
  | s2 {n c t : Int} {nms : List Str} {beh : D} : Unl (.slt n c t nms beh) (.slt n (c + 9) (t + 1) (nms ++ [("zzz" : Str)]) beh)
  | s3 {n c t : Int} {nms : List Str} {beh : D} : Unl (.slt n c t nms beh) (.slt n c (t + 1) nms beh)
theorem unl_no (h : MH vs hs pg ss) (hv : VsOk vs) {l l' : Lt} (hl : l ∈ hs) (hu : Unl l l') {pg' : Pg} {ss' : Sls} : ¬ Heard pg ss l' pg' ss' := by
  have sl : ∀ n c t nms beh, Lt.slt n c t nms beh ∈ hs → ∃ v, getA ss n = some v ∧ v.nms = nms ∧ v.beh = beh ∧ getA v.tms c = some t := fun n c t nms beh hm => by
    obtain ⟨v, hg⟩ := h.sl3 _ _ _ _ _ hm
    obtain ⟨w, hw, g3⟩ := h.sub _ hm
    obtain ⟨rfl, rfl, rfl, rfl, rfl⟩ := letV_slt.mp g3
    obtain ⟨e1, e2⟩ := seal_of h hv hw hg
    exact ⟨v, hg, e1, e2, (h.sl2 _ _ hg _ _).mpr (by rw [e1, e2]; exact hm)⟩
  have len : ∀ {xs ys : List D}, D.tup xs = .tup ys → xs.length = ys.length := fun e => by injection e with e; rw [e]
  intro hh
  cases hu with
  | @page n x t =>
    have := (h.pgs _ _ _).mpr hl
    cases hh with
    | page g =>
      rcases g with g | g
      · rw [g] at this; cases this
      · rw [g] at this
        have e := congrArg Str.length (Option.some.inj this)
        rw [Str.length_append] at e
        have h1 : (Str.ofString "x").length = 1 := rfl
        omega
  | @s0 n c t nms beh =>
    obtain ⟨v, hg, rfl, rfl, ht⟩ := sl _ _ _ _ _ hl
    cases hh with
    | new g => rw [hg] at g; cases g
    | old g g2 g3 =>
      rw [hg] at g
      cases g
      injection g2 with g2
      injection g2 with g2 _
      have := len g2
      rw [List.length_map, List.length_map, List.length_append] at this
      simp at this
  | @s1 n c t r nms bs d =>
    obtain ⟨v, hg, rfl, e, ht⟩ := sl _ _ _ _ _ hl
    cases hh with
    | new g => rw [hg] at g; cases g
    | old g g2 g3 =>
      rw [hg] at g
      cases g
      injection g2 with g2
      injection g2 with _ g2
      injection g2 with g2 _
      rw [e] at g2
      have := len g2
      rw [List.length_append] at this
      simp at this
  | @s2 n c t nms beh =>
    obtain ⟨v, hg, rfl, rfl, ht⟩ := sl _ _ _ _ _ hl
    cases hh with
    | new g => rw [hg] at g; cases g
    | old g g2 g3 =>
      rw [hg] at g
      cases g
      injection g2 with g2
      injection g2 with g2 _
      have := len g2
      rw [List.length_map, List.length_map, List.length_append] at this
      simp at this
  | @s3 n c t nms beh =>
    obtain ⟨v, hg, rfl, rfl, ht⟩ := sl _ _ _ _ _ hl
    cases hh with
    | new g => rw [hg] at g; cases g
    | old g g2 g3 =>
      rw [hg] at g
      cases g
      rcases g3 with g3 | g3
      · rw [g3] at ht; cases ht
      · rw [g3] at ht
        have := Option.some.inj ht
        omega
end

def top (i : Nat) : Stmt := PySem.Challenge.pw_pagesatonce_k61_mirrors_show_complete_ve.main.body.getD i (.Pass ⟨0, 0, 0, 0⟩)
abbrev s_Mirror_init : Stmt := inClass (top 6) 0
abbrev n_Mirror_init : List Str := ["self"]
abbrev v_Mirror_init : List Nat := [2]
abbrev g_Mirror_init : List Str := ["NO_VERSION"]
theorem d_Mirror_init : defC n_Mirror_init v_Mirror_init g_Mirror_init ["self"] (defScope s_Mirror_init) = true := by decide +kernel
theorem z_Mirror_init (a0 : D) : startD n_Mirror_init [a0] = [some a0] := rfl
abbrev s_Mirror_check : Stmt := inClass (top 6) 1
abbrev n_Mirror_check : List Str := ["self", "known", "told"]
abbrev v_Mirror_check : List Nat := [2, 2, 2]
abbrev g_Mirror_check : List Str := ["UnlikeLetters"]
theorem d_Mirror_check : defC n_Mirror_check v_Mirror_check g_Mirror_check ["self", "known", "told"] (defScope s_Mirror_check) = true := by decide +kernel
theorem z_Mirror_check (a0 a1 a2 : D) : startD n_Mirror_check [a0, a1, a2] = [some a0, some a1, some a2] := rfl
abbrev s_Mirror_hear_page : Stmt := inClass (top 6) 2
abbrev n_Mirror_hear_page : List Str := ["self", "number", "name", "text"]
abbrev v_Mirror_hear_page : List Nat := [2, 2, 2, 2]
abbrev g_Mirror_hear_page : List Str := []
theorem d_Mirror_hear_page : defC n_Mirror_hear_page v_Mirror_hear_page g_Mirror_hear_page ["self", "number", "name", "text"] (defScope s_Mirror_hear_page) = true := by decide +kernel
theorem z_Mirror_hear_page (a0 a1 a2 a3 : D) : startD n_Mirror_hear_page [a0, a1, a2, a3] = [some a0, some a1, some a2, some a3] := rfl
abbrev s_Mirror_hear_seal : Stmt := inClass (top 6) 3
abbrev n_Mirror_hear_seal : List Str := ["self", "number", "count", "time", "rest", "known"]
abbrev v_Mirror_hear_seal : List Nat := [2, 2, 2, 2, 2, 2]
abbrev g_Mirror_hear_seal : List Str := []
theorem d_Mirror_hear_seal : defC n_Mirror_hear_seal v_Mirror_hear_seal g_Mirror_hear_seal ["self", "number", "count", "time", "rest"] (defScope s_Mirror_hear_seal) = true := by decide +kernel
theorem z_Mirror_hear_seal (a0 a1 a2 a3 a4 : D) : startD n_Mirror_hear_seal [a0, a1, a2, a3, a4] = [some a0, some a1, some a2, some a3, some a4, none] := rfl
abbrev s_Mirror_complete : Stmt := inClass (top 6) 4
abbrev n_Mirror_complete : List Str := ["self", "number", "names", "behind", "times", "texts", "count", "name", "text"]
abbrev v_Mirror_complete : List Nat := [2, 2, 2, 2, 2, 2, 2, 0, 0]
abbrev g_Mirror_complete : List Str := ["any", "max", "tuple", "zip"]
theorem d_Mirror_complete : defC n_Mirror_complete v_Mirror_complete g_Mirror_complete ["self", "number"] (defScope s_Mirror_complete) = true := by decide +kernel
theorem z_Mirror_complete (a0 a1 : D) : startD n_Mirror_complete [a0, a1] = [some a0, some a1, none, none, none, none, none, none, none] := rfl
abbrev o_Mirror_complete_0 : List (Str × Nat) := [("name", 7)]
abbrev w_Mirror_complete_0 : List Nat := [1, 1, 0, 0, 0, 0, 0, 2, 0]
abbrev h_Mirror_complete_0 : List Str := []
abbrev o_Mirror_complete_1 : List (Str × Nat) := [("text", 8)]
abbrev w_Mirror_complete_1 : List Nat := [0, 0, 0, 0, 0, 0, 0, 0, 2]
abbrev h_Mirror_complete_1 : List Str := []
abbrev s_Mirror_hear : Stmt := inClass (top 6) 5
abbrev n_Mirror_hear : List Str := ["self", "letter", "before", "number", "found"]
abbrev v_Mirror_hear : List Nat := [2, 2, 2, 2, 2]
abbrev g_Mirror_hear : List Str := ["sorted"]
theorem d_Mirror_hear : defC n_Mirror_hear v_Mirror_hear g_Mirror_hear ["self", "letter"] (defScope s_Mirror_hear) = true := by decide +kernel
theorem z_Mirror_hear (a0 a1 : D) : startD n_Mirror_hear [a0, a1] = [some a0, some a1, none, none, none] := rfl
abbrev s_Mirror_shown : Stmt := inClass (top 6) 6
abbrev n_Mirror_shown : List Str := ["self"]
abbrev v_Mirror_shown : List Nat := [2]
abbrev g_Mirror_shown : List Str := []
theorem d_Mirror_shown : defC n_Mirror_shown v_Mirror_shown g_Mirror_shown ["self"] (defScope s_Mirror_shown) = true := by decide +kernel
theorem z_Mirror_shown (a0 : D) : startD n_Mirror_shown [a0] = [some a0] := rfl
abbrev s_Mirror_page : Stmt := inClass (top 6) 7
abbrev n_Mirror_page : List Str := ["self", "name", "other", "text"]
abbrev v_Mirror_page : List Nat := [2, 2, 2, 2]
abbrev g_Mirror_page : List Str := []
theorem d_Mirror_page : defC n_Mirror_page v_Mirror_page g_Mirror_page ["self", "name"] (defScope s_Mirror_page) = true := by decide +kernel
theorem z_Mirror_page (a0 a1 : D) : startD n_Mirror_page [a0, a1] = [some a0, some a1, none, none] := rfl
abbrev s_cell : Stmt := top 8
abbrev n_cell : List Str := ["_law_script", "_law_k"]
abbrev v_cell : List Nat := [2, 2]
abbrev g_cell : List Str := ["len"]
theorem d_cell : defC n_cell v_cell g_cell ["_law_script", "_law_k"] (defScope s_cell) = true := by decide +kernel
theorem z_cell (a0 a1 : D) : startD n_cell [a0, a1] = [some a0, some a1] := rfl
abbrev s_digits : Stmt := top 9
abbrev n_digits : List Str := ["_law_script", "_law_first", "_law_last", "_law_digits_here", "_law_k", "_law_cell_here", "_law_turn", "_law_seed"]
abbrev v_digits : List Nat := [2, 2, 2, 2, 2, 2, 2, 2]
abbrev g_digits : List Str := ["range", "_law_cell", "int"]
theorem d_digits : defC n_digits v_digits g_digits ["_law_script", "_law_first", "_law_last"] (defScope s_digits) = true := by decide +kernel
theorem z_digits (a0 a1 a2 : D) : startD n_digits [a0, a1, a2] = [some a0, some a1, some a2, none, none, none, none, none] := rfl
abbrev s_draw : Stmt := top 10
abbrev n_draw : List Str := ["_law_box", "_law_many", "_law_at"]
abbrev v_draw : List Nat := [2, 2, 2]
abbrev g_draw : List Str := ["len", "int"]
theorem d_draw : defC n_draw v_draw g_draw ["_law_box", "_law_many"] (defScope s_draw) = true := by decide +kernel
theorem z_draw (a0 a1 : D) : startD n_draw [a0, a1] = [some a0, some a1, none] := rfl
abbrev s_name : Stmt := top 11
abbrev n_name : List Str := ["_law_box"]
abbrev v_name : List Nat := [2]
abbrev g_name : List Str := ["_law_draw"]
theorem d_name : defC n_name v_name g_name ["_law_box"] (defScope s_name) = true := by decide +kernel
theorem z_name (a0 : D) : startD n_name [a0] = [some a0] := rfl
abbrev s_text : Stmt := top 12
abbrev n_text : List Str := ["_law_box", "_law_most", "_law_text_here", "_law_turn", "_law_name_here", "_law_kind"]
abbrev v_text : List Nat := [2, 2, 2, 2, 2, 2]
abbrev g_text : List Str := ["range", "_law_draw", "_law_name"]
theorem d_text : defC n_text v_text g_text ["_law_box", "_law_most"] (defScope s_text) = true := by decide +kernel
theorem z_text (a0 a1 : D) : startD n_text [a0, a1] = [some a0, some a1, none, none, none, none] := rfl
abbrev s_sources : Stmt := top 13
abbrev n_sources : List Str := ["_law_box", "_law_most", "_law_sources_here", "_law_turn", "_law_name_here"]
abbrev v_sources : List Nat := [2, 2, 2, 2, 2]
abbrev g_sources : List Str := ["range", "_law_draw", "_law_name", "_law_text"]
theorem d_sources : defC n_sources v_sources g_sources ["_law_box", "_law_most"] (defScope s_sources) = true := by decide +kernel
theorem z_sources (a0 a1 : D) : startD n_sources [a0, a1] = [some a0, some a1, none, none, none] := rfl
abbrev s_pages : Stmt := top 14
abbrev n_pages : List Str := ["_law_box", "_law_pages_here", "_law_turn", "_law_name_here"]
abbrev v_pages : List Nat := [2, 2, 2, 2]
abbrev g_pages : List Str := ["range", "_law_draw", "_law_name", "tuple"]
theorem d_pages : defC n_pages v_pages g_pages ["_law_box"] (defScope s_pages) = true := by decide +kernel
theorem z_pages (a0 : D) : startD n_pages [a0] = [some a0, none, none, none] := rfl
abbrev s_alike : Stmt := top 15
abbrev n_alike : List Str := ["_law_one", "_law_two"]
abbrev v_alike : List Nat := [2, 2]
abbrev g_alike : List Str := ["repr"]
theorem d_alike : defC n_alike v_alike g_alike ["_law_one", "_law_two"] (defScope s_alike) = true := by decide +kernel
theorem z_alike (a0 a1 : D) : startD n_alike [a0, a1] = [some a0, some a1] := rfl
abbrev s_versions : Stmt := top 16
abbrev n_versions : List Str := ["_law_box", "_law_versions_here", "_law_number", "_law_count", "_law_time", "_law_turn", "_law_names", "_law_pages_here", "_law_behind", "_law_name_here"]
abbrev v_versions : List Nat := [2, 2, 2, 2, 2, 2, 2, 2, 2, 0]
abbrev g_versions : List Str := ["range", "_law_draw", "_law_pages", "tuple"]
theorem d_versions : defC n_versions v_versions g_versions ["_law_box"] (defScope s_versions) = true := by decide +kernel
theorem z_versions (a0 : D) : startD n_versions [a0] = [some a0, none, none, none, none, none, none, none, none, none] := rfl
abbrev o_versions_0 : List (Str × Nat) := [("_law_name_here", 9)]
abbrev w_versions_0 : List Nat := [1, 0, 0, 0, 0, 0, 0, 0, 0, 2]
abbrev h_versions_0 : List Str := ["str", "_law_draw"]
abbrev o_versions_1 : List (Str × Nat) := [("_law_name_here", 9)]
abbrev w_versions_1 : List Nat := [0, 0, 0, 0, 0, 0, 0, 0, 0, 2]
abbrev h_versions_1 : List Str := []
abbrev s_letters : Stmt := top 17
abbrev n_letters : List Str := ["_law_version", "_law_letters_here", "_law_names", "_law_name_here", "_law_text_here"]
abbrev v_letters : List Nat := [2, 2, 2, 0, 0]
abbrev g_letters : List Str := ["tuple"]
theorem d_letters : defC n_letters v_letters g_letters ["_law_version"] (defScope s_letters) = true := by decide +kernel
theorem z_letters (a0 : D) : startD n_letters [a0] = [some a0, none, none, none, none] := rfl
abbrev o_letters_0 : List (Str × Nat) := [("_law_name_here", 3), ("_law_text_here", 4)]
abbrev w_letters_0 : List Nat := [1, 0, 0, 2, 2]
abbrev h_letters_0 : List Str := []
abbrev o_letters_1 : List (Str × Nat) := [("_law_name_here", 3), ("_law_text_here", 4)]
abbrev w_letters_1 : List Nat := [0, 0, 0, 2, 2]
abbrev h_letters_1 : List Str := []
abbrev s_hear : Stmt := top 18
abbrev n_hear : List Str := ["_law_mirror", "_law_letter", "e"]
abbrev v_hear : List Nat := [2, 2, 2]
abbrev g_hear : List Str := ["PageError", "isinstance", "UnlikeLetters", "NotKept"]
theorem d_hear : defC n_hear v_hear g_hear ["_law_mirror", "_law_letter"] (defScope s_hear) = true := by decide +kernel
theorem z_hear (a0 a1 : D) : startD n_hear [a0, a1] = [some a0, some a1, none] := rfl
abbrev s_unlike : Stmt := top 19
abbrev n_unlike : List Str := ["_law_box", "_law_letter", "_law_kind"]
abbrev v_unlike : List Nat := [2, 2, 2]
abbrev g_unlike : List Str := ["_law_draw"]
theorem d_unlike : defC n_unlike v_unlike g_unlike ["_law_box", "_law_letter"] (defScope s_unlike) = true := by decide +kernel
theorem z_unlike (a0 a1 : D) : startD n_unlike [a0, a1] = [some a0, some a1, none] := rfl
abbrev s_shown : Stmt := top 20
abbrev n_shown : List Str := ["_law_heard", "_law_versions_here", "_law_found", "_law_version", "_law_letter"]
abbrev v_shown : List Nat := [2, 2, 2, 2, 0]
abbrev g_shown : List Str := ["_law_letters"]
theorem d_shown : defC n_shown v_shown g_shown ["_law_heard", "_law_versions_here"] (defScope s_shown) = true := by decide +kernel
theorem z_shown (a0 a1 : D) : startD n_shown [a0, a1] = [some a0, some a1, none, none, none] := rfl
abbrev o_shown_0 : List (Str × Nat) := [("_law_letter", 4)]
abbrev w_shown_0 : List Nat := [1, 0, 0, 0, 2]
abbrev h_shown_0 : List Str := []
abbrev s_law : Stmt := top 21
abbrev n_law : List Str := ["_law_script", "_law_box", "_law_versions_here", "_law_letters_here", "_law_version", "_law_mirror", "_law_heard", "_law_shown_here", "_law_turn", "_law_letter", "_law_now", "_law_name_here", "_law_texts", "_law_due", "_law_row"]
abbrev v_law : List Nat := [2, 2, 2, 2, 2, 2, 2, 2, 2, 2, 2, 2, 2, 2, 0]
abbrev g_law : List Str := ["_law_digits", "_law_versions", "_law_letters", "Mirror", "_law_alike", "range", "min", "max", "len", "_law_draw", "_law_hear", "_law_unlike", "_law_shown"]
theorem d_law : defC n_law v_law g_law ["_law_script"] (defScope s_law) = true := by decide +kernel
theorem z_law (a0 : D) : startD n_law [a0] = [some a0, none, none, none, none, none, none, none, none, none, none, none, none, none, none] := rfl
abbrev o_law_0 : List (Str × Nat) := [("_law_row", 14)]
abbrev w_law_0 : List Nat := [0, 0, 0, 0, 0, 0, 0, 0, 0, 0, 0, 1, 0, 0, 2]
abbrev h_law_0 : List Str := []
/-- what the module holds -/
abbrev ns_Mirror : List Str := ["_pages", "_seals", "_best", "_shown"]
structure Txt (P : Program) (w : World) (K : PySem.W.Frag) (mg : Str → Option Value) (base : Heap) (C_PageError : Addr) (C_NotKept : Addr) (C_UnlikeLetters : Addr) (C_Mirror : Addr) : Prop where
  ok : True
  i_Mirror : ClsI K C_Mirror ns_Mirror
  x_PageError : XcT K mg "PageError" C_PageError
  gm_PageError : mg "PageError" = some (.ref C_PageError)
  x_NotKept : XcT K mg "NotKept" C_NotKept
  gm_NotKept : mg "NotKept" = some (.ref C_NotKept)
  x_UnlikeLetters : XcT K mg "UnlikeLetters" C_UnlikeLetters
  gm_UnlikeLetters : mg "UnlikeLetters" = some (.ref C_UnlikeLetters)
  e_PageError_PageError : PySem.W.exmOne K (.ref C_PageError) (.ref C_PageError) = some true
  e_PageError_NotKept : PySem.W.exmOne K (.ref C_PageError) (.ref C_NotKept) = some false
  e_PageError_UnlikeLetters : PySem.W.exmOne K (.ref C_PageError) (.ref C_UnlikeLetters) = some false
  e_NotKept_PageError : PySem.W.exmOne K (.ref C_NotKept) (.ref C_PageError) = some true
  e_NotKept_NotKept : PySem.W.exmOne K (.ref C_NotKept) (.ref C_NotKept) = some true
  e_NotKept_UnlikeLetters : PySem.W.exmOne K (.ref C_NotKept) (.ref C_UnlikeLetters) = some false
  e_UnlikeLetters_PageError : PySem.W.exmOne K (.ref C_UnlikeLetters) (.ref C_PageError) = some true
  e_UnlikeLetters_NotKept : PySem.W.exmOne K (.ref C_UnlikeLetters) (.ref C_NotKept) = some false
  e_UnlikeLetters_UnlikeLetters : PySem.W.exmOne K (.ref C_UnlikeLetters) (.ref C_UnlikeLetters) = some true
  q_PageError : ExcC K C_PageError
  kk_PageError_PageError : PySem.W.kitOne K (.ref C_PageError) (.ref C_PageError) = some true
  kk_PageError_NotKept : PySem.W.kitOne K (.ref C_PageError) (.ref C_NotKept) = some false
  kk_PageError_UnlikeLetters : PySem.W.kitOne K (.ref C_PageError) (.ref C_UnlikeLetters) = some false
  q_NotKept : ExcC K C_NotKept
  kk_NotKept_PageError : PySem.W.kitOne K (.ref C_NotKept) (.ref C_PageError) = some true
  kk_NotKept_NotKept : PySem.W.kitOne K (.ref C_NotKept) (.ref C_NotKept) = some true
  kk_NotKept_UnlikeLetters : PySem.W.kitOne K (.ref C_NotKept) (.ref C_UnlikeLetters) = some false
  q_UnlikeLetters : ExcC K C_UnlikeLetters
  kk_UnlikeLetters_PageError : PySem.W.kitOne K (.ref C_UnlikeLetters) (.ref C_PageError) = some true
  kk_UnlikeLetters_NotKept : PySem.W.kitOne K (.ref C_UnlikeLetters) (.ref C_NotKept) = some false
  kk_UnlikeLetters_UnlikeLetters : PySem.W.kitOne K (.ref C_UnlikeLetters) (.ref C_UnlikeLetters) = some true
  m_any : mg "any" = none
  m_max : mg "max" = none
  m_tuple : mg "tuple" = none
  m_zip : mg "zip" = none
  m_sorted : mg "sorted" = none
  m_len : mg "len" = none
  m_range : mg "range" = none
  m_int : mg "int" = none
  m_repr : mg "repr" = none
  m_str : mg "str" = none
  m_isinstance : mg "isinstance" = none
  m_min : mg "min" = none
  g_NO_VERSION : GV K mg "NO_VERSION" (.tup [.int 0, .int 0, .int 0, .tup [], .tup []])
section
variable {P : Program} {w : World} {K : PySem.W.Frag} {mg : Str → Option Value} {base : Heap} {C_PageError : Addr} {C_NotKept : Addr} {C_UnlikeLetters : Addr} {C_Mirror : Addr}
theorem ok_cell {X : Cx} (B : Bd X P w K mg base (defScope s_cell) n_cell v_cell g_cell 0) (Bt0 : Bt X) (T : Txt P w K mg base C_PageError C_NotKept C_UnlikeLetters C_Mirror) (ds : List D) (Gs : Pt) (Q : QD) (R : RX) (h : spCell ds Gs Q R) : SsD X (defBody s_cell) (startD n_cell ds) Gs ⟨fun _ G => Q .non G, Q, fun _ _ => False, fun _ _ => False, R⟩ := by
  have m_len := T.m_len
  have i_Mirror := T.i_Mirror
  obtain ⟨ns, i, rfl, h0, rfl, q⟩ := h
  rw [z_cell]
  refine ssc_ ?_
  walk_at "go2"
  · obtain ⟨x, e, _⟩ := atI_in h0 h
    exact ix_scr e (q x)
  · exact q 0
theorem fn_cell {f : Addr} {fd : FuncData} (F : Fun K "_law_cell" "_law_cell" s_cell f fd) (T : Txt P w K mg base C_PageError C_NotKept C_UnlikeLetters C_Mirror) : FnG P w K mg base 1 f fd ["_law_script", "_law_k"] (toSp K 2 spCell) :=
  fnD F d_cell fun X B Bt0 ds Gs Qd Rd _ h => ok_cell B Bt0 T  ds Gs Qd Rd h
theorem ok_digits {X : Cx} (B : Bd X P w K mg base (defScope s_digits) n_digits v_digits g_digits 1) (Bt0 : Bt X) (T : Txt P w K mg base C_PageError C_NotKept C_UnlikeLetters C_Mirror) (c_cell : Cal P w K mg base 1 "_law_cell" 2 spCell) (ds : List D) (Gs : Pt) (Q : QD) (R : RX) (h : spDigits ds Gs Q R) : SsD X (defBody s_digits) (startD n_digits ds) Gs ⟨fun _ G => Q .non G, Q, fun _ _ => False, fun _ _ => False, R⟩ := by
  have m_range := T.m_range
  have m_int := T.m_int
  have i_Mirror := T.i_Mirror
  obtain ⟨ns, rfl, rfl, q⟩ := h
  rw [z_digits]
  refine ssc_ ?_
  walk_at "go"
  refine ⟨0, 63, rfl, rfl, by decide, by decide, by decide, by decide, fun i σ G => ∃ (x1 x2 x3 x4 : Option D) (ms : List Int), σ = [some (.scr ns), some (.int 0), some (.int 63), some (.ref p), x1, x2, x3, x4] ∧ G = [[(p, .lst (ms.map .int))]] ∧ ms.length ≤ 60 * i, ⟨_, _, _, _, [], rfl, rfl, by simp⟩, ?_, ?_⟩
  · rintro i σ G hi ⟨x1, x2, x3, x4, ms, rfl, rfl, hl⟩
    walk_at "go2"
    refine ⟨rfl, ns, _, rfl, by omega, rfl, fun v => ?_⟩
    refine sx_ (by walk_at "at") ?_
    refine ssc_ ?_
    refine cut_ (fun σ G => ∃ (v : Int), σ = [some (.scr ns), some (.int 0), some (.int 63), some (.ref p), some (.int (0 + (i : Nat))), some (.int v), x3, x4] ∧ G = [[(p, .lst (ms.map .int))]]) ?_ ?_
    · walk_at "go2"
      · exact ⟨_, rfl, rfl⟩
      · exact ⟨_, rfl, rfl⟩
    · rintro σ G ⟨v, rfl, rfl⟩
      walk_at "go2"
      · refine ⟨by decide, by decide, fun j σ G => ∃ (v : Int) (x3 : Option D) (ms : List Int), σ = [some (.scr ns), some (.int 0), some (.int 63), some (.ref p), some (.int (0 + (i : Nat))), some (.int v), x3, x4] ∧ G = [[(p, .lst (ms.map .int))]] ∧ ms.length ≤ 60 * i + j, ⟨_, _, ms, rfl, rfl, by omega⟩, ?_, ?_⟩
        · rintro j σ G hj ⟨v, x3, ms, rfl, rfl, hl⟩
          walk_at "go2"
          · exact ⟨_, _, ms ++ [_], rfl, by rw [List.map_append]; rfl, by simp; omega⟩
          · exact ⟨_, _, ms, rfl, rfl, by omega⟩
        · rintro σ G ⟨v, x3, ms, rfl, rfl, hl⟩
          walk_at "go2"
          exact ⟨_, _, _, _, ms, rfl, rfl, by simp at hl; omega⟩
      · refine ⟨by decide, by decide, fun j σ G => ∃ (v' : Int) (x3 : Option D) (ms : List Int), σ = [some (.scr ns), some (.int 0), some (.int 63), some (.ref p), some (.int (0 + (i : Nat))), some (.int v), x3, some (.int v')] ∧ G = [[(p, .lst (ms.map .int))]] ∧ ms.length ≤ 60 * i + j, ⟨_, _, ms, rfl, rfl, by omega⟩, ?_, ?_⟩
        · rintro j σ G hj ⟨v', x3, ms, rfl, rfl, hl⟩
          walk_at "go2"
          exact ⟨_, _, ms ++ [_], rfl, by rw [List.map_append]; rfl, by simp; omega⟩
        · rintro σ G ⟨v', x3, ms, rfl, rfl, hl⟩
          walk_at "go2"
          exact ⟨_, _, _, _, ms, rfl, rfl, by simp at hl; omega⟩
  · rintro σ G ⟨x1, x2, x3, x4, ms, rfl, rfl, hl⟩
    refine sfrz_ (i := 3) (by walk_at "at") .here (by walk_at "at") ?_
    walk_at "go2"
    exact q ms hl
theorem fn_digits {f : Addr} {fd : FuncData} (F : Fun K "_law_digits" "_law_digits" s_digits f fd) (T : Txt P w K mg base C_PageError C_NotKept C_UnlikeLetters C_Mirror) (c_cell : Cal P w K mg base 1 "_law_cell" 2 spCell) : FnG P w K mg base 2 f fd ["_law_script", "_law_first", "_law_last"] (toSp K 3 spDigits) :=
  fnD F d_digits fun X B Bt0 ds Gs Qd Rd _ h => ok_digits B Bt0 T c_cell ds Gs Qd Rd h
theorem ok_draw {X : Cx} (B : Bd X P w K mg base (defScope s_draw) n_draw v_draw g_draw 0) (Bt0 : Bt X) (T : Txt P w K mg base C_PageError C_NotKept C_UnlikeLetters C_Mirror) (ds : List D) (Gs : Pt) (Q : QD) (R : RX) (h : spDraw ds Gs Q R) : SsD X (defBody s_draw) (startD n_draw ds) Gs ⟨fun _ G => Q .non G, Q, fun _ _ => False, fun _ _ => False, R⟩ := by
  have m_len := T.m_len
  have m_int := T.m_int
  have i_Mirror := T.i_Mirror
  obtain ⟨p, b, m, rfl, rfl, hb, hm, q⟩ := h
  rw [z_draw]
  obtain ⟨ms, a, rfl, ha⟩ := hb
  have fin : ∀ r : Int, Q (.int (r % m)) [[(p, .lst [.lst (ms.map .int), .int (a + 1)])]] := fun r => q _ _ (Int.emod_nonneg _ (by omega)) (Int.emod_lt_of_pos _ hm) ⟨ms, a + 1, rfl, by omega⟩
  refine ssc_ ?_
  walk_at "go2"
  · obtain ⟨x, e, _⟩ := atI_in ha h
    refine ix_lst (atI_map e) ?_
    walk_at "go2"
    exact fin _
  · exact fin _

theorem fn_draw {f : Addr} {fd : FuncData} (F : Fun K "_law_draw" "_law_draw" s_draw f fd) (T : Txt P w K mg base C_PageError C_NotKept C_UnlikeLetters C_Mirror) : FnG P w K mg base 1 f fd ["_law_box", "_law_many"] (toSp K 2 spDraw) :=
  fnD F d_draw fun X B Bt0 ds Gs Qd Rd _ h => ok_draw B Bt0 T  ds Gs Qd Rd h
theorem ok_Mirror_init {X : Cx} (B : Bd X P w K mg base (defScope s_Mirror_init) n_Mirror_init v_Mirror_init g_Mirror_init 0) (Bt0 : Bt X) (T : Txt P w K mg base C_PageError C_NotKept C_UnlikeLetters C_Mirror) (ds : List D) (Gs : Pt) (Q : QD) (R : RX) (h : (sp_Mirror_init P w C_Mirror) ds Gs Q R) : SsD X (defBody s_Mirror_init) (startD n_Mirror_init ds) Gs ⟨fun _ G => Q .non G, Q, fun _ _ => False, fun _ _ => False, R⟩ := by
  have g_NO_VERSION := T.g_NO_VERSION
  have i_Mirror := T.i_Mirror
  obtain ⟨p, rfl, rfl, q⟩ := h
  rw [z_Mirror_init]
  refine ssc_ ?_
  refine sfld_ (e_dctT B fun pp => ?_)
  walk_at "x"
  walk_at "x"
  walk_at "x"
  refine sfld_ (e_dct0 fun pz => ?_)
  walk_at "x"
  walk_at "x"
  refine sre_ (Gs' := [[(p, .ins C_Mirror ["_pages", "_seals"] [.ref pp, .ref pz]), (pp, .dT P w pp []), (pz, .dK [])]]) ?_ ?_
  · exact Sb.per (List.reverse_perm [(p, M.ins C_Mirror ["_pages", "_seals"] [.ref pp, .ref pz]), (pp, M.dT P w pp []), (pz, M.dK [])]).symm
  walk_at "go"
  exact q pp pz
theorem fn_Mirror_init {f : Addr} {fd : FuncData} (F : Fun K "__init__" "Mirror.__init__" s_Mirror_init f fd) (T : Txt P w K mg base C_PageError C_NotKept C_UnlikeLetters C_Mirror) : FnG P w K mg base 1 f fd ["self"] (toSp K 1 (sp_Mirror_init P w C_Mirror)) :=
  fnD F d_Mirror_init fun X B Bt0 ds Gs Qd Rd _ h => ok_Mirror_init B Bt0 T  ds Gs Qd Rd h
theorem ok_Mirror_check {X : Cx} (B : Bd X P w K mg base (defScope s_Mirror_check) n_Mirror_check v_Mirror_check g_Mirror_check 2) (Bt0 : Bt X) (T : Txt P w K mg base C_PageError C_NotKept C_UnlikeLetters C_Mirror) (ds : List D) (Gs : Pt) (Q : QD) (R : RX) (h : (sp_Mirror_check C_UnlikeLetters C_Mirror) ds Gs Q R) : SsD X (defBody s_Mirror_check) (startD n_Mirror_check ds) Gs ⟨fun _ G => Q .non G, Q, fun _ _ => False, fun _ _ => False, R⟩ := by
  have i_Mirror := T.i_Mirror
  have x_PageError := T.x_PageError
  have gm_PageError := T.gm_PageError
  have x_NotKept := T.x_NotKept
  have gm_NotKept := T.gm_NotKept
  have x_UnlikeLetters := T.x_UnlikeLetters
  have gm_UnlikeLetters := T.gm_UnlikeLetters
  obtain ⟨p, x, y, rfl, rfl, hx, hy, q1, q2, q3⟩ := h
  rw [z_Mirror_check]
  refine ssc_ ?_
  walk_at "goif"
  refine sif_ (EvT.imp (Q := fun t G => t = (!isNon x && !eqD x y) ∧ G = []) ?_ ?_)
  · walk_at "go"
    cases hn : isNon x with
    | true => exact ⟨fun z => (by cases z), fun _ => ⟨rfl, rfl⟩⟩
    | false =>
      refine ⟨fun _ => ?_, fun z => (by cases z)⟩
      walk_at "go"
      refine c_neV (n := 8) (m := 8) B (isd_val (dat_sh _ _ hx)) (isd_val (dat_sh _ _ hy)) (dat_sh _ _ hx) (dat_sh _ _ hy) (by decide) (by decide) ?_
      walk_at "go"
      exact ⟨rfl, rfl⟩
  rintro t G ⟨rfl, rfl⟩
  cases hb : (!isNon x && !eqD x y) with
  | true =>
    rw [Bool.and_eq_true, Bool.not_eq_true', Bool.not_eq_true'] at hb
    have h3 := q3 (fun z => by rw [z] at hb; exact absurd hb.1 (by decide)) (fun z => by rw [(eqD_iff hx hy).mpr z] at hb; exact absurd hb.2 (by decide))
    walk_at "br"
    walk_at "go"
    exact h3
  | false =>
    have h4 : Q .non [] := by
      cases hn : isNon x with
      | true =>
        cases x with
        | non => exact q1 rfl
        | _ => cases hn
      | false =>
        rw [hn] at hb
        exact q2 ((eqD_iff hx hy).mp (by simpa using hb))
    walk_at "br"
    walk_at "go"
    exact h4
theorem fn_Mirror_check {f : Addr} {fd : FuncData} (F : Fun K "_check" "Mirror._check" s_Mirror_check f fd) (T : Txt P w K mg base C_PageError C_NotKept C_UnlikeLetters C_Mirror) : FnG P w K mg base 3 f fd ["self", "known", "told"] (toSp K 3 (sp_Mirror_check C_UnlikeLetters C_Mirror)) :=
  fnD F d_Mirror_check fun X B Bt0 ds Gs Qd Rd _ h => ok_Mirror_check B Bt0 T  ds Gs Qd Rd h
theorem dat_optT {o : Option Str} (h : ∀ t, o = some t → PyData.strOk t = true) : dat 8 ((o.map D.str).getD .non) = true := by
  cases o with
  | none => rfl
  | some t =>
    have := h t rfl
    show dat 8 (.str t) = true
    simpa only [dat] using this
theorem ok_Mirror_hear_page {X : Cx} (B : Bd X P w K mg base (defScope s_Mirror_hear_page) n_Mirror_hear_page v_Mirror_hear_page g_Mirror_hear_page 3) (Bt0 : Bt X) (T : Txt P w K mg base C_PageError C_NotKept C_UnlikeLetters C_Mirror) (c_Mirror_check : CalM P w K mg base 3 C_Mirror ns_Mirror "_check" 3 (sp_Mirror_check C_UnlikeLetters C_Mirror)) (ds : List D) (Gs : Pt) (Q : QD) (R : RX) (h : (sp_Mirror_hear_page P w C_UnlikeLetters C_Mirror) ds Gs Q R) : SsD X (defBody s_Mirror_hear_page) (startD n_Mirror_hear_page ds) Gs ⟨fun _ G => Q .non G, Q, fun _ _ => False, fun _ _ => False, R⟩ := by
  have i_Mirror := T.i_Mirror
  obtain ⟨p, pp, pz, a, b, sh, pg, ss, n, x, t, rfl, rfl, ht, hpg, hl, q1, q2⟩ := h
  rw [z_Mirror_hear_page]
  have hgt : ∀ t', getA pg (n, x) = some t' → PyData.strOk t' = true := fun t' e => hpg _ (getA_mem e)
  have hzp : (pgK pg).length < sizeLine := by rw [List.length_map, sizeLine_eq]; omega
  have hxt : dat 8 (.str t) = true := by simpa only [dat] using ht
  refine ssc_ ?_
  walk_at "go"
  rw [show valD (pgK pg) (List.map keyOf [D.int n, D.str x]) = (getA pg (n, x)).map D.str from val_pg]
  have fin : (getA pg (n, x) = none ∨ getA pg (n, x) = some t) → Q .non [miPt P w C_Mirror p pp pz a b sh (putA pg (n, x) t) ss] := q1
  clear q1
  refine ⟨rfl, tk2_pick .nil ⟨p, _, _, rfl, rfl, dat_optT hgt, hxt, fun e => ⟨_, Sb.refl, ?_⟩, fun e => ⟨_, Sb.refl, ?_⟩, fun e1 e2 => ⟨_, Sb.refl, ?_⟩⟩⟩
  · have h1 : getA pg (n, x) = none := by
      cases hg : getA pg (n, x) with
      | none => rfl
      | some t' => rw [hg] at e; cases e
    rw [List.nil_append]
    walk_at "go"
    rw [show putD (pgK pg) (List.map keyOf [D.int n, D.str x]) (.str t) = pgK (putA pg (n, x) t) from put_pg]
    exact fin (.inl h1)
  · have h1 : getA pg (n, x) = some t := by
      cases hg : getA pg (n, x) with
      | none => rw [hg] at e; cases e
      | some t' => rw [hg] at e; cases e; rfl
    rw [List.nil_append]
    walk_at "go"
    rw [show putD (pgK pg) (List.map keyOf [D.int n, D.str x]) (.str t) = pgK (putA pg (n, x) t) from put_pg]
    exact fin (.inr h1)
  · rw [List.nil_append]
    cases hg : getA pg (n, x) with
    | none => rw [hg] at e1; exact absurd rfl e1
    | some t' => exact q2 t' hg fun z => e2 (by rw [hg, z]; rfl)
theorem fn_Mirror_hear_page {f : Addr} {fd : FuncData} (F : Fun K "_hear_page" "Mirror._hear_page" s_Mirror_hear_page f fd) (T : Txt P w K mg base C_PageError C_NotKept C_UnlikeLetters C_Mirror) (c_Mirror_check : CalM P w K mg base 3 C_Mirror ns_Mirror "_check" 3 (sp_Mirror_check C_UnlikeLetters C_Mirror)) : FnG P w K mg base 4 f fd ["self", "number", "name", "text"] (toSp K 4 (sp_Mirror_hear_page P w C_UnlikeLetters C_Mirror)) :=
  fnD F d_Mirror_hear_page fun X B Bt0 ds Gs Qd Rd _ h => ok_Mirror_hear_page B Bt0 T c_Mirror_check ds Gs Qd Rd h
theorem ok_Mirror_hear_seal {X : Cx} (B : Bd X P w K mg base (defScope s_Mirror_hear_seal) n_Mirror_hear_seal v_Mirror_hear_seal g_Mirror_hear_seal 3) (Bt0 : Bt X) (T : Txt P w K mg base C_PageError C_NotKept C_UnlikeLetters C_Mirror) (c_Mirror_check : CalM P w K mg base 3 C_Mirror ns_Mirror "_check" 3 (sp_Mirror_check C_UnlikeLetters C_Mirror)) (ds : List D) (Gs : Pt) (Q : QD) (R : RX) (h : (sp_Mirror_hear_seal P w C_UnlikeLetters C_Mirror) ds Gs Q R) : SsD X (defBody s_Mirror_hear_seal) (startD n_Mirror_hear_seal ds) Gs ⟨fun _ G => Q .non G, Q, fun _ _ => False, fun _ _ => False, R⟩ := by
  have i_Mirror := T.i_Mirror
  obtain ⟨p, pp, pz, a, b, sh, pg, ss, n, c, t, nms, beh, rfl, rfl, ho, hr, q1, q2, q3, q4⟩ := h
  rw [z_Mirror_hear_seal]
  have hnl := ho.len
  have hzs : (slK ss).length < sizeLine := by rw [List.length_map, sizeLine_eq]; omega
  refine ssc_ ?_
  walk_at "go"
  refine m_dget1 (j := .inl n) B (by walk_at "cell") ?_
  rw [show valD (slK ss) (.inl n) = (getA ss n).map sealD from val_sl]
  cases hg : getA ss n with
  | none =>
    have h1 := q1 hg
    rw [show ((none : Option Sv).map sealD).getD .non = .non from rfl]
    walk_at "go2"
    refine e_dct0 fun q => ?_
    walk_at "go"
    refine set_dct (j := .inl n) B (by walk_at "upd") hzs ?_
    walk_at "go"
    refine set_dct (j := .inl c) B (by walk_at "upd") (show ([] : List (Key × D)).length < sizeLine by rw [sizeLine_eq]; decide) ?_
    have e1 : putD (slK ss) (Sum.inl n) (.tup [.tup [.tup (nms.map .str), beh], .ref q]) = slK (putA ss n ⟨nms, beh, q, [(c, t)]⟩) := put_sl (v := ⟨nms, beh, q, [(c, t)]⟩)
    have e2 : slC (putA ss n ⟨nms, beh, q, [(c, t)]⟩) = slC ss ++ [(q, .dK (tmK [(c, t)]))] := by rw [putA_none hg]; exact List.map_append ..
    rw [e1]
    refine sre_ (Gs' := [miPt P w C_Mirror p pp pz a b sh pg (putA ss n ⟨nms, beh, q, [(c, t)]⟩)]) (Sb.per ?_) ?_
    · show ((p, _) :: (pp, _) :: (pz, _) :: slC (putA ss n ⟨nms, beh, q, [(c, t)]⟩) ++ []).Perm ((q, _) :: (p, _) :: (pp, _) :: (pz, _) :: slC ss ++ [])
      rw [e2, List.append_nil, List.append_nil]
      exact (List.perm_append_comm (l₁ := (p, _) :: (pp, _) :: (pz, _) :: slC ss) (l₂ := [(q, _)]))
    walk_at "go"
    exact h1 q
  | some v =>
    have hv := getA_mem hg
    have hl : v.tms.length < 1000 := (ho.tm _ hv).2
    have hrd : dat 8 (restD v) = true := ho.dt _ hv
    have hzt : (tmK v.tms).length < sizeLine := by rw [List.length_map, sizeLine_eq]; omega
    have hod : dat 8 (((getA v.tms c).map D.int).getD .non) = true := by cases getA v.tms c <;> rfl
    rw [show ((some v : Option Sv).map sealD).getD .non = sealD v from rfl]
    walk_at "go2"
    refine ⟨rfl, tk2_pick .nil ⟨p, _, _, rfl, rfl, hrd, hr, fun e => (by cases e), fun e => ⟨_, Sb.refl, ?_⟩, fun e1 e2 => ⟨_, Sb.refl, q2 v hg e2⟩⟩⟩
    rw [List.nil_append]
    walk_at "go"
    refine ⟨ty_dK (.here (.next (.next (.next (has_sl hg))))), ?_⟩
    walk_at "go"
    refine m_dget1 (j := .inl c) B (.here (.next (.next (.next (has_sl hg))))) ?_
    rw [show valD (tmK v.tms) (.inl c) = (getA v.tms c).map D.int from val_tm]
    walk_at "go"
    refine ⟨rfl, tk2_pick .nil ⟨p, _, _, rfl, rfl, hod, (by rfl), fun e1 => ⟨_, Sb.refl, ?_⟩, fun e1 => ⟨_, Sb.refl, ?_⟩, fun e1 e2 => ⟨_, Sb.refl, ?_⟩⟩⟩
    · have h1 : getA v.tms c = none := by
        cases hgc : getA v.tms c with
        | none => rfl
        | some t' => rw [hgc] at e1; cases e1
      rw [List.nil_append]
      walk_at "go"
      refine set_dct (j := .inl c) B (.here (.next (.next (.next (by rw [put_tm]; exact upd_sl ho.nd hg))))) hzt ?_
      walk_at "go"
      have := q3 v hg e (.inl h1)
      unfold miPt at this
      rw [same_sl ho.nd hg] at this
      exact this
    · have h1 : getA v.tms c = some t := by
        cases hgc : getA v.tms c with
        | none => rw [hgc] at e1; cases e1
        | some t' => rw [hgc] at e1; cases e1; rfl
      rw [List.nil_append]
      walk_at "go"
      refine set_dct (j := .inl c) B (.here (.next (.next (.next (by rw [put_tm]; exact upd_sl ho.nd hg))))) hzt ?_
      walk_at "go"
      have := q3 v hg e (.inr h1)
      unfold miPt at this
      rw [same_sl ho.nd hg] at this
      exact this
    · rw [List.nil_append]
      cases hgc : getA v.tms c with
      | none => rw [hgc] at e1; exact absurd rfl e1
      | some t' => exact q4 v t' hg e hgc fun z => e2 (by rw [hgc, z]; rfl)
theorem fn_Mirror_hear_seal {f : Addr} {fd : FuncData} (F : Fun K "_hear_seal" "Mirror._hear_seal" s_Mirror_hear_seal f fd) (T : Txt P w K mg base C_PageError C_NotKept C_UnlikeLetters C_Mirror) (c_Mirror_check : CalM P w K mg base 3 C_Mirror ns_Mirror "_check" 3 (sp_Mirror_check C_UnlikeLetters C_Mirror)) : FnG P w K mg base 4 f fd ["self", "number", "count", "time", "rest"] (toSp K 5 (sp_Mirror_hear_seal P w C_UnlikeLetters C_Mirror)) :=
  fnD F d_Mirror_hear_seal fun X B Bt0 ds Gs Qd Rd _ h => ok_Mirror_hear_seal B Bt0 T c_Mirror_check ds Gs Qd Rd h
theorem valid_pairs {pg : Pg} {n : Int} {nms : List Str} (h : (txts pg n nms).all Option.isSome = true) : D.tup (zip2L (nms.map D.str) (nms.map fun x => ((getA pg (n, x)).map D.str).getD .non)) = pairsD pg n nms := by
  unfold zip2L pairsD
  congr 1
  refine List.ext_getElem? fun i => ?_
  rw [List.getElem?_map, List.getElem?_map, List.length_map]
  by_cases hi : i < nms.length
  · rw [List.getElem?_range hi, List.getElem?_eq_getElem hi]
    have hs := List.all_eq_true.mp h (getA pg (n, nms[i])) (List.mem_map.mpr ⟨nms[i], List.getElem_mem hi, rfl⟩)
    obtain ⟨t, ht⟩ := Option.isSome_iff_exists.mp hs
    show some (D.tup [(nms.map D.str).getD i .non, (nms.map fun x => ((getA pg (n, x)).map D.str).getD .non).getD i .non]) = some (D.tup [.str nms[i], .str ((getA pg (n, nms[i])).getD "")])
    rw [List.getD_eq_getElem?_getD, List.getElem?_map, List.getElem?_eq_getElem hi, List.getD_eq_getElem?_getD, List.getElem?_map, List.getElem?_eq_getElem hi]
    show some (D.tup [.str nms[i], ((getA pg (n, nms[i])).map D.str).getD .non]) = _
    rw [ht]
    rfl
  · rw [List.getElem?_eq_none (by rw [List.length_range]; omega), List.getElem?_eq_none (by omega)]
    rfl
theorem ok_Mirror_complete {X : Cx} (B : Bd X P w K mg base (defScope s_Mirror_complete) n_Mirror_complete v_Mirror_complete g_Mirror_complete 0) (Bt0 : Bt X) (T : Txt P w K mg base C_PageError C_NotKept C_UnlikeLetters C_Mirror) (ds : List D) (Gs : Pt) (Q : QD) (R : RX) (h : (sp_Mirror_complete P w C_Mirror) ds Gs Q R) : SsD X (defBody s_Mirror_complete) (startD n_Mirror_complete ds) Gs ⟨fun _ G => Q .non G, Q, fun _ _ => False, fun _ _ => False, R⟩ := by
  have m_any := T.m_any
  have m_max := T.m_max
  have m_tuple := T.m_tuple
  have m_zip := T.m_zip
  have i_Mirror := T.i_Mirror
  obtain ⟨p, pp, pz, a, b, sh, pg, ss, n, v, rfl, rfl, ho, hg, hn, q1, q2⟩ := h
  rw [z_Mirror_complete]
  have hv := getA_mem hg
  obtain ⟨ht0, ht1⟩ := ho.tm _ hv
  have hvs : valD (slK ss) (.inl n) = some (sealD v) := by rw [show valD (slK ss) (.inl n) = (getA ss n).map sealD from val_sl, hg]; rfl
  refine ssc_ ?_
  walk_at "go"
  refine ix_K (j := .inl n) B (dc_own (by walk_at "cell")) hvs ?_
  walk_at "go"
  refine slcm_ D.str (fun x => ((getA pg (n, x)).map D.str).getD .non) o_Mirror_complete_0 w_Mirror_complete_0 h_Mirror_complete_0 (by rfl) B (by walk_at "at") (by walk_at "at") (by rfl) (by decide +kernel) (by rfl) (by rfl) (by decide +kernel) (by decide +kernel) (by decide +kernel) (it_tup ?_)
  walk_at "go"
  refine ⟨_, rfl, v.nms, rfl, trivial, by rw [sizeLine_eq]; omega, fun i x hx => ?_, ?_⟩
  · walk_at "go"
    rw [show valD (pgK pg) (List.map keyOf [D.int n, D.str x]) = (getA pg (n, x)).map D.str from val_pg]
    exact ⟨rfl, rfl⟩
  refine ⟨_, by walk_at "at", ?_⟩
  walk_at "goif"
  refine sif_ (EvT.imp (Q := fun t G => t = !isFull pg n v ∧ G = [miPt P w C_Mirror p pp pz a b sh pg ss]) ?_ ?_)
  · walk_at "go"
    refine lcm_ (fun o : Option Str => (o.map D.str).getD .non) (fun o : Option Str => .bl (!o.isSome)) o_Mirror_complete_1 w_Mirror_complete_1 h_Mirror_complete_1 (by rfl) B (by walk_at "at") (by rfl) (by decide +kernel) (by decide +kernel) (it_lst ?_)
    walk_at "go"
    refine ⟨_, rfl, txts pg n v.nms, by unfold txts; rw [List.map_map]; rfl, trivial, by unfold txts; rw [List.length_map, sizeLine_eq]; omega, fun i o ho => ?_, ?_⟩
    · cases o <;> (walk_at "go"; exact ⟨rfl, rfl⟩)
    walk_at "go"
    refine k_any (ns := (txts pg n v.nms).map fun o => !o.isSome) B (by rw [List.map_map]; exact ls_val) ?_
    walk_at "go"
    refine ⟨?_, rfl⟩
    unfold isFull
    rw [List.any_map, show ((txts pg n v.nms).any (id ∘ fun o => !o.isSome)) = (txts pg n v.nms).any (fun o => !o.isSome) from rfl, ← List.not_all_eq_any_not]
  rintro t G ⟨rfl, rfl⟩
  cases hf : isFull pg n v with
  | false =>
    have h1 := q1 hf
    walk_at "br"
    walk_at "go"
    exact h1
  | true =>
    have h1 := q2 hf
    walk_at "br"
    walk_at "go"
    refine k_maxK (ks := v.tms.map (·.1)) B (dc_own (.here (.next (.next (.next (has_sl hg)))))) (by rw [List.map_map, List.map_map]; rfl) (by rw [List.length_map]; exact ht0) fun m hm hmax => ?_
    obtain ⟨tt, htt⟩ := getA_some hm
    have h2 := h1 m ⟨hm, hmax⟩
    unfold foundD at h2
    rw [htt] at h2
    walk_at "go"
    refine ix_K (j := .inl m) (d := .int tt) B (dc_own (.here (.next (.next (.next (has_sl hg)))))) (by rw [show valD (tmK v.tms) (.inl m) = (getA v.tms m).map D.int from val_tm, htt]; rfl) ?_
    walk_at "go"
    refine ⟨_, _, rfl, by rw [List.length_map, List.length_map], ?_⟩
    rw [valid_pairs hf]
    walk_at "go"
    exact h2
theorem fn_Mirror_complete {f : Addr} {fd : FuncData} (F : Fun K "_complete" "Mirror._complete" s_Mirror_complete f fd) (T : Txt P w K mg base C_PageError C_NotKept C_UnlikeLetters C_Mirror) : FnG P w K mg base 1 f fd ["self", "number"] (toSp K 2 (sp_Mirror_complete P w C_Mirror)) :=
  fnD F d_Mirror_complete fun X B Bt0 ds Gs Qd Rd _ h => ok_Mirror_complete B Bt0 T  ds Gs Qd Rd h
theorem ok_Mirror_hear {X : Cx} (B : Bd X P w K mg base (defScope s_Mirror_hear) n_Mirror_hear v_Mirror_hear g_Mirror_hear 4) (Bt0 : Bt X) (T : Txt P w K mg base C_PageError C_NotKept C_UnlikeLetters C_Mirror) (c_Mirror_hear_page : CalM P w K mg base 4 C_Mirror ns_Mirror "_hear_page" 4 (sp_Mirror_hear_page P w C_UnlikeLetters C_Mirror)) (c_Mirror_hear_seal : CalM P w K mg base 4 C_Mirror ns_Mirror "_hear_seal" 5 (sp_Mirror_hear_seal P w C_UnlikeLetters C_Mirror)) (c_Mirror_complete : CalM P w K mg base 1 C_Mirror ns_Mirror "_complete" 2 (sp_Mirror_complete P w C_Mirror)) (ds : List D) (Gs : Pt) (Q : QD) (R : RX) (h : (sp_Mirror_hear P w C_UnlikeLetters C_Mirror) ds Gs Q R) : SsD X (defBody s_Mirror_hear) (startD n_Mirror_hear ds) Gs ⟨fun _ G => Q .non G, Q, fun _ _ => False, fun _ _ => False, R⟩ := by
  have m_sorted := T.m_sorted
  have i_Mirror := T.i_Mirror
  obtain ⟨p, pp, pz, a, b, sh, pg, ss, k0, l, rfl, rfl, ho, hk, hl, hsh, q1, q2⟩ := h
  rw [z_Mirror_hear]
  have hsl := ho.slOk (by omega)
  refine ssc_ ?_
  refine cut_ (fun σ G => ∃ pg' ss', σ = [some (.ref p), some (ltD l), none, none, none] ∧ G = [miPt P w C_Mirror p pp pz a b sh pg' ss'] ∧ Heard pg ss l pg' ss') ?_ ?_
  · cases l with
    | page n x t =>
      unfold ltD
      walk_at "go2"
      · refine ⟨rfl, tk2_spot (by walk_at "spot") ⟨p, pp, pz, a, b, sh, pg, ss, n, x, t, rfl, rfl, hl.2, ho.pt, by have := ho.pl; omega, fun g => ⟨_, rfl, ?_⟩, fun t' g1 g2 => ⟨_, rfl, q2 ⟨t', g1, g2⟩⟩⟩⟩
        walk_at "go"
        exact ⟨_, _, rfl, rfl, .page g⟩
      · exact absurd rfl h
    | slt n c t nms beh =>
      unfold ltD
      walk_at "go2"
      · exact absurd h (by decide +kernel)
      · refine ⟨rfl, tk2_spot (by walk_at "spot") ⟨p, pp, pz, a, b, sh, pg, ss, n, c, t, nms, beh, rfl, rfl, hsl, hl.1, fun g q => ⟨_, rfl, ?_⟩, fun v g1 g2 => ⟨_, rfl, q2 ⟨v, g1, .inl g2⟩⟩, fun v g1 g2 g3 => ⟨_, rfl, ?_⟩, fun v t' g1 g2 g3 g4 => ⟨_, rfl, q2 ⟨v, g1, .inr ⟨t', g3, g4⟩⟩⟩⟩⟩
        · walk_at "go"
          exact ⟨_, _, rfl, rfl, .new g⟩
        · walk_at "go"
          exact ⟨_, _, rfl, rfl, .old g1 g2 g3⟩
  rintro σ G ⟨pg', ss', rfl, rfl, hh⟩
  have ho' := heard_ok hh ho hl
  have hsl' := ho'.slOk (by omega)
  have q3 := fun a' b' sh' => q1 pg' ss' a' b' sh' hh
  clear q1 q2 hh
  walk_at "gofor"
  refine fl_ D.int B ?_
  walk_at "go"
  refine k_sortedKI (ks := ss'.map (·.1)) B (dc_own (by walk_at "cell")) (by rw [List.map_map, List.map_map]; rfl) (by rw [List.length_map]; have := ho'.sl; omega) fun ys hp _ => ?_
  refine ⟨ys, rfl, fun i σ G => ∃ (a' b' : Int) (sh' : D) (y3 y4 : Option D), σ = [some (.ref p), some (ltD l), some sh, y3, y4] ∧ G = [miPt P w C_Mirror p pp pz a' b' sh' pg' ss'] ∧ dat 8 sh' = true ∧ (∀ n ∈ ys.take i, ∀ v c, getA ss' n = some v → isFull pg' n v = true → isMx v.tms c → ¬ gtP n c a' b') ∧ ¬ gtP a b a' b' ∧ ((a' = a ∧ b' = b ∧ sh' = sh) ∨ ∃ n v c, getA ss' n = some v ∧ isFull pg' n v = true ∧ isMx v.tms c ∧ a' = n ∧ b' = c ∧ sh' = foundD pg' n v c), ⟨a, b, sh, _, _, rfl, rfl, hsh, fun n hn => (by cases hn), gt_irr a b, .inl ⟨rfl, rfl, rfl⟩⟩, ?_, ?_⟩
  · rintro i n σ G hi ⟨a', b', sh', y3, y4, rfl, rfl, hsh', h1, h2, h3⟩
    have hn : n ∈ ss'.map (·.1) := hp.mem_iff.mp (List.mem_of_getElem? hi)
    obtain ⟨v, hv⟩ := getA_some hn
    have hvm := getA_mem hv
    have hnm := (ho'.dt _ hvm).2
    have take1 : ∀ m, m ∈ ys.take (i + 1) → m ∈ ys.take i ∨ m = n := fun m hm => by
      rw [List.take_add_one, hi] at hm
      rcases List.mem_append.mp hm with z | z
      · exact .inl z
      · exact .inr (List.mem_singleton.mp z)
    walk_at "go"
    refine ⟨rfl, tk2_spot (by walk_at "spot") ⟨p, pp, pz, a', b', sh', pg', ss', n, v, rfl, rfl, hsl', hv, hnm, fun hf => ⟨_, rfl, ?_⟩, fun hf c hc => ⟨_, rfl, ?_⟩⟩⟩
    · refine sx_ (by walk_at "at") ?_
      walk_at "go2"
      refine ⟨a', b', sh', _, _, rfl, rfl, hsh', fun m hm v' c' g1 g2 g3 => ?_, h2, h3⟩
      rcases take1 m hm with z | z
      · exact h1 m z v' c' g1 g2 g3
      · rw [z] at g1 g2
        rw [hv] at g1
        cases g1
        rw [hf] at g2
        cases g2
    · refine sx_ (by walk_at "at") ?_
      walk_at "go2"
      rw [show Dl.cutD [D.int n, D.int c, D.int ((getA v.tms c).getD 0), pairsD pg' n v.nms, v.beh] none (some 2) = [D.int n, D.int c] from rfl]
      refine c_gtT2 B ?_
      walk_at "go2"
      · have hgt : gtP n c a' b' := by unfold gtP; omega
        refine ⟨n, c, foundD pg' n v c, _, _, rfl, rfl, found_dat (ho'.dt _ hvm).1 ho'.pt, fun m hm v' c' g1 g2 g3 => ?_, fun z => ?_, .inr ⟨n, v, c, hv, hf, hc, rfl, rfl, rfl⟩⟩
        · rcases take1 m hm with z | z
          · exact gt_tr (h1 m z v' c' g1 g2 g3) hgt
          · subst z
            rw [hv] at g1
            cases g1
            have e1 := hc.2 c' g3.1
            unfold gtP
            omega
        · exact gt_tr h2 hgt z
      · refine ⟨a', b', sh', _, _, rfl, rfl, hsh', fun m hm v' c' g1 g2 g3 => ?_, h2, h3⟩
        rcases take1 m hm with z | z
        · exact h1 m z v' c' g1 g2 g3
        · subst z
          rw [hv] at g1
          cases g1
          have e1 := hc.2 c' g3.1
          have e2 : ¬ gtP m c a' b' := by unfold gtP; omega
          unfold gtP at e2 ⊢
          omega
  · rintro σ G ⟨a', b', sh', y3, y4, rfl, rfl, hsh', h1, h2, h3⟩
    rw [List.take_length] at h1
    walk_at "go"
    refine c_neV (n := 8) (m := 8) B (isd_val (dat_sh _ _ hsh')) (isd_val (dat_sh _ _ hsh)) (dat_sh _ _ hsh') (dat_sh _ _ hsh) (by decide) (by decide) ?_
    walk_at "go"
    exact q3 a' b' sh' ⟨fun n v c g1 => h1 n (hp.mem_iff.mpr (List.mem_map.mpr ⟨_, getA_mem g1, rfl⟩)) v c g1, h2, h3⟩ hsh'
theorem fn_Mirror_hear {f : Addr} {fd : FuncData} (F : Fun K "hear" "Mirror.hear" s_Mirror_hear f fd) (T : Txt P w K mg base C_PageError C_NotKept C_UnlikeLetters C_Mirror) (c_Mirror_hear_page : CalM P w K mg base 4 C_Mirror ns_Mirror "_hear_page" 4 (sp_Mirror_hear_page P w C_UnlikeLetters C_Mirror)) (c_Mirror_hear_seal : CalM P w K mg base 4 C_Mirror ns_Mirror "_hear_seal" 5 (sp_Mirror_hear_seal P w C_UnlikeLetters C_Mirror)) (c_Mirror_complete : CalM P w K mg base 1 C_Mirror ns_Mirror "_complete" 2 (sp_Mirror_complete P w C_Mirror)) : FnG P w K mg base 5 f fd ["self", "letter"] (toSp K 2 (sp_Mirror_hear P w C_UnlikeLetters C_Mirror)) :=
  fnD F d_Mirror_hear fun X B Bt0 ds Gs Qd Rd _ h => ok_Mirror_hear B Bt0 T c_Mirror_hear_page c_Mirror_hear_seal c_Mirror_complete ds Gs Qd Rd h
theorem ok_Mirror_shown {X : Cx} (B : Bd X P w K mg base (defScope s_Mirror_shown) n_Mirror_shown v_Mirror_shown g_Mirror_shown 0) (Bt0 : Bt X) (T : Txt P w K mg base C_PageError C_NotKept C_UnlikeLetters C_Mirror) (ds : List D) (Gs : Pt) (Q : QD) (R : RX) (h : (sp_Mirror_shown P w C_Mirror) ds Gs Q R) : SsD X (defBody s_Mirror_shown) (startD n_Mirror_shown ds) Gs ⟨fun _ G => Q .non G, Q, fun _ _ => False, fun _ _ => False, R⟩ := by
  have i_Mirror := T.i_Mirror
  obtain ⟨p, pp, pz, a, b, sh, pg, ss, rfl, rfl, q⟩ := h
  rw [z_Mirror_shown]
  refine ssc_ ?_
  walk_at "go"
  exact q
theorem getA_at {κ α : Type} [DecidableEq κ] {l : List (κ × α)} {j : κ} {i : Nat} {e : κ × α} (hn : getA (l.take i) j = none) (hi : l[i]? = some e) : (e.1 = j → getA l j = some e.2) ∧ (e.1 ≠ j → getA (l.take (i + 1)) j = none) := by
  have app : ∀ (l m : List (κ × α)), getA l j = none → getA (l ++ m) j = getA m j := by
    intro l m
    induction l with
    | nil => intro _; rfl
    | cons x l ih =>
      intro h
      rw [getA_cons] at h
      rw [List.cons_append, getA_cons]
      split at h
      · cases h
      · rename_i g
        rw [if_neg g]
        exact ih h
  constructor
  · intro h
    have e2 := List.take_append_drop i l
    rw [drop_cons hi] at e2
    rw [← e2, app _ _ hn, getA_cons, if_pos h]
  · intro h
    rw [List.take_add_one, hi, app _ _ hn]
    show getA [e] j = none
    rw [getA_cons, if_neg h]
    rfl
theorem fn_Mirror_shown {f : Addr} {fd : FuncData} (F : Fun K "shown" "Mirror.shown" s_Mirror_shown f fd) (T : Txt P w K mg base C_PageError C_NotKept C_UnlikeLetters C_Mirror) : FnG P w K mg base 1 f fd ["self"] (toSp K 1 (sp_Mirror_shown P w C_Mirror)) :=
  fnD F d_Mirror_shown fun X B Bt0 ds Gs Qd Rd _ h => ok_Mirror_shown B Bt0 T  ds Gs Qd Rd h
theorem ok_Mirror_page {X : Cx} (B : Bd X P w K mg base (defScope s_Mirror_page) n_Mirror_page v_Mirror_page g_Mirror_page 0) (Bt0 : Bt X) (T : Txt P w K mg base C_PageError C_NotKept C_UnlikeLetters C_Mirror) (ds : List D) (Gs : Pt) (Q : QD) (R : RX) (h : (sp_Mirror_page P w C_Mirror) ds Gs Q R) : SsD X (defBody s_Mirror_page) (startD n_Mirror_page ds) Gs ⟨fun _ G => Q .non G, Q, fun _ _ => False, fun _ _ => False, R⟩ := by
  have i_Mirror := T.i_Mirror
  obtain ⟨p, pp, pz, a, b, n, c, t, rows, beh, pg, ss, x, rfl, rfl, q⟩ := h
  rw [z_Mirror_page]
  refine ssc_ ?_
  refine ft_ (fun e : Str × Str => .tup [.str e.1, .str e.2]) B ?_
  walk_at "go"
  refine ⟨rows, rfl, fun i σ G => ∃ (y2 y3 : Option D), σ = [some (.ref p), some (.str x), y2, y3] ∧ G = [miPt P w C_Mirror p pp pz a b (.tup [n, c, t, .tup (rows.map fun e => .tup [.str e.1, .str e.2]), beh]) pg ss] ∧ getA (rows.take i) x = none, ⟨_, _, rfl, rfl, rfl⟩, ?_, ?_⟩
  · rintro i e σ G hi ⟨y2, y3, rfl, rfl, hn⟩
    obtain ⟨g1, g2⟩ := getA_at hn hi
    walk_at "go2"
    · have := g1 h
      rw [this] at q
      exact q
    · exact ⟨_, _, rfl, rfl, g2 h⟩
  · rintro σ G ⟨y2, y3, rfl, rfl, hn⟩
    rw [List.take_length] at hn
    rw [hn] at q
    walk_at "go"
    exact q
theorem fn_Mirror_page {f : Addr} {fd : FuncData} (F : Fun K "page" "Mirror.page" s_Mirror_page f fd) (T : Txt P w K mg base C_PageError C_NotKept C_UnlikeLetters C_Mirror) : FnG P w K mg base 1 f fd ["self", "name"] (toSp K 2 (sp_Mirror_page P w C_Mirror)) :=
  fnD F d_Mirror_page fun X B Bt0 ds Gs Qd Rd _ h => ok_Mirror_page B Bt0 T  ds Gs Qd Rd h

theorem ok_name {X : Cx} (B : Bd X P w K mg base (defScope s_name) n_name v_name g_name 1) (Bt0 : Bt X) (T : Txt P w K mg base C_PageError C_NotKept C_UnlikeLetters C_Mirror) (c_draw : Cal P w K mg base 1 "_law_draw" 2 spDraw) (ds : List D) (Gs : Pt) (Q : QD) (R : RX) (h : sp_name ds Gs Q R) : SsD X (defBody s_name) (startD n_name ds) Gs ⟨fun _ G => Q .non G, Q, fun _ _ => False, fun _ _ => False, R⟩ := by
  have i_Mirror := T.i_Mirror
  obtain ⟨p, bx, rfl, rfl, hb, q⟩ := h
  rw [z_name]
  refine ssc_ ?_
  walk_at "go"
  obtain ⟨z, e, hm, _⟩ := atI_in (l := names8) hr0 hr1
  refine ix_lst (d := .str z) (atI_map (f := D.str) e) ?_
  walk_at "go"
  exact q z _ hm (by assumption)
theorem fn_name {f : Addr} {fd : FuncData} (F : Fun K "_law_name" "_law_name" s_name f fd) (T : Txt P w K mg base C_PageError C_NotKept C_UnlikeLetters C_Mirror) (c_draw : Cal P w K mg base 1 "_law_draw" 2 spDraw) : FnG P w K mg base 2 f fd ["_law_box"] (toSp K 1 sp_name) :=
  fnD F d_name fun X B Bt0 ds Gs Qd Rd _ h => ok_name B Bt0 T c_draw ds Gs Qd Rd h

theorem ok_pages {X : Cx} (B : Bd X P w K mg base (defScope s_pages) n_pages v_pages g_pages 2) (Bt0 : Bt X) (T : Txt P w K mg base C_PageError C_NotKept C_UnlikeLetters C_Mirror) (c_draw : Cal P w K mg base 1 "_law_draw" 2 spDraw) (c_name : CalS P w K mg base 2 "_law_name" 1 sp_name) (ds : List D) (Gs : Pt) (Q : QD) (R : RX) (h : sp_pages ds Gs Q R) : SsD X (defBody s_pages) (startD n_pages ds) Gs ⟨fun _ G => Q .non G, Q, fun _ _ => False, fun _ _ => False, R⟩ := by
  have m_range := T.m_range
  have m_tuple := T.m_tuple
  have i_Mirror := T.i_Mirror
  obtain ⟨pb, bx, rfl, rfl, hb, q⟩ := h
  rw [z_pages]
  refine ssc_ ?_
  walk_at "own"
  walk_at "go"
  intro p
  walk_at "go"
  refine ⟨by omega, by omega, fun i σ G => ∃ (zs : List Str) (bx : M) (y2 y3 : Option D), σ = [some (.ref pb), some (.ref p), y2, y3] ∧ G = [[(p, .lst (zs.map .str))], [(pb, bx)]] ∧ isBox bx ∧ zs.length ≤ i ∧ zs.Nodup ∧ (∀ z ∈ zs, z ∈ names8), ⟨[], _, _, _, rfl, rfl, by assumption, Nat.le_refl _, List.nodup_nil, (fun _ h => nomatch h)⟩, ?_, ?_⟩
  · rintro i σ G hi ⟨zs, bx, y2, y3, rfl, rfl, hbx, z1, z2, z3⟩
    walk_at "go"
    refine ⟨rfl, _, _, (by walk_at "spot"), pb, _, rfl, rfl, hbx, fun nm b2 hnm hb2 => ⟨_, rfl, ?_⟩⟩
    refine sx_ (by walk_at "at") ?_
    have hnok := okS_str (names8_ok nm hnm).1
    have hsh : (zs.map D.str).all (shN 0) = true := by
      rw [List.all_map]
      exact List.all_eq_true.mpr fun z hz => okS_str (names8_ok z (z3 z hz)).1
    walk_at "go"
    refine c_ninSO B hnok (by walk_at "cell") hsh ?_
    walk_at "go2"
    · refine ⟨zs ++ [nm], _, _, _, rfl, by rw [List.map_append]; rfl, hb2, by rw [List.length_append, List.length_singleton]; omega, ?_, fun z hz => ?_⟩
      · rw [List.nodup_append]
        refine ⟨z2, by simp, fun a ha b hb e => ?_⟩
        rw [List.mem_singleton] at hb
        exact h (by rw [← hb, ← e]; exact ha)
      · rcases List.mem_append.mp hz with g | g
        · exact z3 z g
        · rw [List.mem_singleton.mp g]; exact hnm
    · exact ⟨zs, _, _, _, rfl, rfl, hb2, by omega, z2, z3⟩
  · rintro σ G ⟨zs, bx, y2, y3, rfl, rfl, hbx, z1, z2, z3⟩
    refine sfrz_ (i := 1) (by walk_at "at") .here (by walk_at "at") ?_
    walk_at "go"
    refine k_tupL ls_val ?_
    exact q zs _ ⟨by omega, z2, z3⟩ hbx
theorem fn_pages {f : Addr} {fd : FuncData} (F : Fun K "_law_pages" "_law_pages" s_pages f fd) (T : Txt P w K mg base C_PageError C_NotKept C_UnlikeLetters C_Mirror) (c_draw : Cal P w K mg base 1 "_law_draw" 2 spDraw) (c_name : CalS P w K mg base 2 "_law_name" 1 sp_name) : FnG P w K mg base 3 f fd ["_law_box"] (toSp K 1 sp_pages) :=
  fnD F d_pages fun X B Bt0 ds Gs Qd Rd _ h => ok_pages B Bt0 T c_draw c_name ds Gs Qd Rd h

theorem ok_alike {X : Cx} (B : Bd X P w K mg base (defScope s_alike) n_alike v_alike g_alike 0) (Bt0 : Bt X) (T : Txt P w K mg base C_PageError C_NotKept C_UnlikeLetters C_Mirror) (ds : List D) (Gs : Pt) (Q : QD) (R : RX) (h : sp_alike ds Gs Q R) : SsD X (defBody s_alike) (startD n_alike ds) Gs ⟨fun _ G => Q .non G, Q, fun _ _ => False, fun _ _ => False, R⟩ := by
  have m_repr := T.m_repr
  have i_Mirror := T.i_Mirror
  obtain ⟨x, d, n, wt, rfl, hx, hd, hn, hw, q⟩ := h
  rw [z_alike]
  refine ssc_ ?_
  walk_at "go"
  refine k_repr B (hx _) hd hn hw ?_
  walk_at "go"
  refine k_repr B (isd_val hd.sh) hd hn hw ?_
  walk_at "go"
  rw [decide_eq_true rfl]
  exact q
theorem fn_alike {f : Addr} {fd : FuncData} (F : Fun K "_law_alike" "_law_alike" s_alike f fd) (T : Txt P w K mg base C_PageError C_NotKept C_UnlikeLetters C_Mirror) : FnG P w K mg base 1 f fd ["_law_one", "_law_two"] (toSp K 2 sp_alike) :=
  fnD F d_alike fun X B Bt0 ds Gs Qd Rd _ h => ok_alike B Bt0 T  ds Gs Qd Rd h

structure GPB (pgs : List (Str × Str)) (beh : List Str) : Prop where
  nm : ∀ e ∈ pgs, e.1 ∈ names8 ∧ okS e.2 = true ∧ e.2.length ≤ 10
  nd : (pgs.map (·.1)).Nodup
  len : pgs.length ≤ 6
  bh : beh.length ≤ 6 ∧ ∀ x ∈ beh, x ∈ names8
structure VI (vs : List Ver) (i : Nat) (num cnt tim : Int) (pgs : List (Str × Str)) (beh : List Str) : Prop where
  len : vs.length = i
  good : ∀ v ∈ vs, VGood v
  pw : vs.Pairwise fun v u => v.c < u.c ∧ v.n ≤ u.n ∧ (v.n = u.n → v.pgs = u.pgs ∧ v.beh = u.beh)
  le : ∀ v ∈ vs, v.n ≤ num ∧ v.c ≤ cnt ∧ (v.n = num → v.pgs = pgs ∧ v.beh = beh)
  bd : 0 ≤ num ∧ num ≤ i ∧ 0 ≤ cnt ∧ cnt ≤ 4 * i ∧ 0 ≤ tim ∧ tim ≤ 30 * i
  last : vs ≠ [] → GPB pgs beh ∧ 1 ≤ num
theorem vi_0 : VI [] 0 0 0 0 [] [] := ⟨rfl, fun _ h => absurd h List.not_mem_nil, List.Pairwise.nil, fun _ h => absurd h List.not_mem_nil, by omega, fun h => absurd rfl h⟩
theorem vi_next {vs : List Ver} {i : Nat} {num cnt tim num' cnt' tim' : Int} {pgs pgs' : List (Str × Str)} {beh beh' : List Str} (h : VI vs i num cnt tim pgs beh) (hi : i < 5) (hc : cnt < cnt' ∧ cnt' ≤ cnt + 4) (ht : tim ≤ tim' ∧ tim' ≤ tim + 30)
    (hn : (num' = num ∧ pgs' = pgs ∧ beh' = beh ∧ vs ≠ []) ∨ (num' = num + 1 ∧ GPB pgs' beh')) : VI (vs ++ [⟨num', cnt', tim', pgs', beh'⟩]) (i + 1) num' cnt' tim' pgs' beh' := by
  obtain ⟨h1, h2, h3, h4, h5, h6⟩ := h
  have hg : GPB pgs' beh' ∧ 1 ≤ num' := by
    rcases hn with ⟨rfl, rfl, rfl, hne⟩ | ⟨rfl, g⟩
    · exact h6 hne
    · exact ⟨g, by omega⟩
  have mem : ∀ x, x ∈ vs ++ [(⟨num', cnt', tim', pgs', beh'⟩ : Ver)] → x ∈ vs ∨ x = ⟨num', cnt', tim', pgs', beh'⟩ := fun x hx => (List.mem_append.mp hx).imp_right List.mem_singleton.mp
  have hnn : num ≤ num' ∧ num' ≤ num + 1 := by
    rcases hn with ⟨rfl, _⟩ | ⟨rfl, _⟩ <;> omega
  refine ⟨by rw [List.length_append, h1]; rfl, fun v hv => ?_, ?_, fun v hv => ?_, by omega, fun _ => hg⟩
  · rcases mem v hv with z | z
    · exact h2 v z
    · rw [z]
      exact ⟨hg.1.nm, hg.1.nd, hg.1.len, hg.1.bh, ⟨hg.2, by show 1 ≤ cnt'; omega, by show 0 ≤ tim'; omega⟩, ⟨by show num' ≤ 10; omega, by show cnt' ≤ 100; omega, by show tim' ≤ 1000; omega⟩⟩
  · refine List.pairwise_append.mpr ⟨h3, List.pairwise_singleton _ _, fun v hv u hu => ?_⟩
    rw [List.mem_singleton.mp hu]
    obtain ⟨g1, g2, g3⟩ := h4 v hv
    refine ⟨by show v.c < cnt'; omega, by show v.n ≤ num'; omega, fun e => ?_⟩
    have e : v.n = num' := e
    rcases hn with ⟨rfl, rfl, rfl, _⟩ | ⟨rfl, _⟩
    · exact g3 e
    · omega
  · rcases mem v hv with z | z
    · obtain ⟨g1, g2, g3⟩ := h4 v z
      refine ⟨by omega, by omega, fun e => ?_⟩
      rcases hn with ⟨rfl, rfl, rfl, _⟩ | ⟨rfl, _⟩
      · exact g3 e
      · omega
    · rw [z]
      exact ⟨Int.le_refl _, Int.le_refl _, fun _ => ⟨rfl, rfl⟩⟩
theorem vi_ok {vs : List Ver} {i : Nat} {num cnt tim : Int} {pgs : List (Str × Str)} {beh : List Str} (h : VI vs i num cnt tim pgs beh) (hi : i ≤ 5) : VsOk vs := ⟨h.good, h.pw, by rw [h.len]; exact hi⟩
theorem ver_dat {v : Ver} (h : VGood v) : dat 8 (verD v) = true := by
  have h1 : dat 7 (pgD v.pgs) = true := by
    have : (v.pgs.map fun e => D.tup [.str e.1, .str e.2]).all (dat 6) = true := List.all_eq_true.mpr fun d hd => by
      obtain ⟨e, he, rfl⟩ := List.mem_map.mp hd
      have := h.nm e he
      simp only [dat, List.all_cons, List.all_nil, Bool.and_true, Bool.and_eq_true]
      exact ⟨nms_ok this.1, okS_str this.2.1⟩
    simpa only [dat] using this
  have h2 := dat_beh h.bh.2
  have : (([.int v.n, .int v.c, .int v.t, pgD v.pgs, behD v.beh] : List D).all (dat 7)) = true := by
    rw [List.all_cons, List.all_cons, List.all_cons, List.all_cons, List.all_cons, h1, h2]
    rfl
  simpa only [dat] using this
theorem vers_nil {vs : List Ver} : (eqD (.lst (vs.map verD)) (.lst []) = true ↔ vs = []) ∨ ∃ v ∈ vs, ¬ VGood v := by
  by_cases hg : ∀ v ∈ vs, VGood v
  · refine .inl ?_
    have hd : dat 9 (.lst (vs.map verD)) = true := by
      have : (vs.map verD).all (dat 8) = true := List.all_eq_true.mpr fun d hd => by
        obtain ⟨v, hv, rfl⟩ := List.mem_map.mp hd
        exact ver_dat (hg v hv)
      simpa only [dat] using this
    rw [eqD_iff (m := 9) hd rfl]
    constructor
    · intro e
      injection e with e
      exact List.map_eq_nil_iff.mp e
    · rintro rfl
      rfl
  · refine .inr ?_
    exact Classical.byContradiction fun z => hg fun v hv => Classical.byContradiction fun y => z ⟨v, hv, y⟩
theorem t_ok {r : Int} (h0 : 0 ≤ r) (h1 : r < 3) : okS (Str.ofString "t" ++ Str.ofString (toString r)) = true ∧ (Str.ofString "t" ++ Str.ofString (toString r)).length ≤ 10 := by
  rcases (show r = 0 ∨ r = 1 ∨ r = 2 by omega) with rfl | rfl | rfl <;> decide +kernel
def sp_versions : SpD := fun ds Gs Q _ => ∃ (p : Addr) (bx : M), ds = [.ref p] ∧ Gs = [[(p, bx)]] ∧ isBox bx ∧ ∀ vs b', VsOk vs → vs ≠ [] → isBox b' → Q (.lst (vs.map verD)) [[(p, b')]]
theorem ok_versions {X : Cx} (B : Bd X P w K mg base (defScope s_versions) n_versions v_versions g_versions 3) (Bt0 : Bt X) (T : Txt P w K mg base C_PageError C_NotKept C_UnlikeLetters C_Mirror) (c_draw : Cal P w K mg base 1 "_law_draw" 2 spDraw) (c_pages : CalS P w K mg base 3 "_law_pages" 1 sp_pages) (ds : List D) (Gs : Pt) (Q : QD) (R : RX) (h : sp_versions ds Gs Q R) : SsD X (defBody s_versions) (startD n_versions ds) Gs ⟨fun _ G => Q .non G, Q, fun _ _ => False, fun _ _ => False, R⟩ := by
  have m_range := T.m_range
  have m_tuple := T.m_tuple
  have m_str := T.m_str
  have i_Mirror := T.i_Mirror
  obtain ⟨pb, bx, rfl, rfl, hb, q⟩ := h
  rw [z_versions]
  refine ssc_ ?_
  walk_at "own"
  walk_at "go"
  intro p
  walk_at "go"
  refine ⟨by omega, by omega, fun i σ G => ∃ (vs : List Ver) (bx : M) (num cnt tim : Int) (pgs : List (Str × Str)) (beh : List Str) (y5 y6 y7 y8 y9 : Option D), σ = [some (.ref pb), some (.ref p), some (.int num), some (.int cnt), some (.int tim), y5, y6, y7, y8, y9] ∧ G = [[(p, .lst (vs.map verD))], [(pb, bx)]] ∧ isBox bx ∧ VI vs i num cnt tim pgs beh ∧ (vs ≠ [] → y7 = some (pgD pgs) ∧ y8 = some (behD beh)), ⟨[], _, 0, 0, 0, [], [], _, _, _, _, _, rfl, rfl, by assumption, vi_0, fun h => absurd rfl h⟩, ?_, ?_⟩
  · rintro i σ G hi ⟨vs, bx, num, cnt, tim, pgs, beh, y5, y6, y7, y8, y9, rfl, rfl, hbx, hv, hy⟩
    have hi5 : i < 5 := by omega
    have hvl := hv.len
    walk_at "goif"
    rename_i r1 b1 hr10 hr11 hb1
    have hds : (vs.map verD).all (shN 8) = true := List.all_eq_true.mpr fun d hd => by
      obtain ⟨v, hvm, rfl⟩ := List.mem_map.mp hd
      exact dat_sh _ _ (ver_dat (hv.good v hvm))
    have hsh : shN 9 (.lst (vs.map verD)) = true := by simpa only [shN] using hds
    have hnil : eqD (.lst (vs.map verD)) (.lst []) = true ↔ vs = [] := vers_nil.resolve_right fun ⟨v, hvm, z⟩ => z (hv.good v hvm)
    refine cut_ (fun σ G => ∃ (bx : M) (num' : Int) (pgs' : List (Str × Str)) (beh' : List Str) (y6 y9 : Option D), σ = [some (.ref pb), some (.ref p), some (.int num'), some (.int (cnt + 1 + r1)), some (.int (tim + r)), some (.int (i : Nat)), y6, some (pgD pgs'), some (behD beh'), y9] ∧ G = [[(p, .lst (vs.map verD))], [(pb, bx)]] ∧ isBox bx ∧ ((num' = num ∧ pgs' = pgs ∧ beh' = beh ∧ vs ≠ []) ∨ (num' = num + 1 ∧ GPB pgs' beh'))) ?_ ?_
    · refine sif_ (EvT.imp (Q := fun t G => ∃ bx, G = [[(p, .lst (vs.map verD))], [(pb, bx)]] ∧ isBox bx ∧ (t = false → vs ≠ [])) ?_ ?_)
      · walk_at "go"
        refine c_eqV (n := 9) (m := 9) (d := .lst (vs.map verD)) B (isd_own (n := 8) ?_ hds) (isd_val (n := 9) rfl) hsh rfl (by decide) (by decide) ?_
        · walk_at "cell"
        walk_at "go"
        cases hn : eqD (.lst (vs.map verD)) (.lst []) with
        | true => exact ⟨fun _ => ⟨_, rfl, by assumption, fun z => (by cases z)⟩, fun z => (by cases z)⟩
        | false =>
          refine ⟨fun z => (by cases z), fun _ => ?_⟩
          walk_at "go"
          exact ⟨_, rfl, by assumption, fun _ z => by rw [hnil.mpr z] at hn; cases hn⟩
      rintro t G ⟨bx2, rfl, hb2, hne⟩
      cases t with
      | false =>
        obtain ⟨rfl, rfl⟩ := hy (hne rfl)
        walk_at "br"
        walk_at "go"
        exact ⟨bx2, num, pgs, beh, _, _, rfl, rfl, hb2, .inl ⟨rfl, rfl, rfl, hne rfl⟩⟩
      | true =>
        walk_at "br"
        walk_at "go"
        refine ⟨rfl, _, _, (by walk_at "spot"), pb, bx2, rfl, rfl, hb2, fun zs b3 hz hb3 => ⟨_, rfl, ?_⟩⟩
        walk_at "go"
        rw [show Dl.cutD (zs.map D.str) none (some 4) = (zs.take 4).map D.str by rw [cutD_map, cutA_to (by decide)]; rfl]
        have hzl : (zs.take 4).length ≤ 4 := by rw [List.length_take]; omega
        have hzn : (zs.take 4).Nodup := hz.2.1.sublist (List.take_sublist _ _)
        have hz8 : ∀ x ∈ zs.take 4, x ∈ names8 := fun x hx => hz.2.2 x (List.mem_of_mem_take hx)
        generalize zs.take 4 = zt at *
        refine lc_  o_versions_0 w_versions_0 h_versions_0 (by rfl) B (by walk_at "at") (by rfl) (by decide +kernel) (by decide +kernel) (it_tup ?_)
        walk_at "go"
        refine ⟨zt.map .str, rfl, fun j acc G => ∃ (rows : List (Str × Str)) (bx : M), acc = (rows.map fun e => .tup [.str e.1, .str e.2]) ∧ rows.map (·.1) = zt.take j ∧ (∀ e ∈ rows, okS e.2 = true ∧ e.2.length ≤ 10) ∧ G = [[(p, .lst (vs.map verD))], [(pb, bx)]] ∧ isBox bx, ⟨[], _, rfl, rfl, (fun e he => by cases he), rfl, hb3⟩, ?_, ?_⟩
        · rintro j d acc G hd ⟨rows, bx, rfl, hr2, hr3, rfl, hbx⟩
          obtain ⟨x, hx, rfl⟩ := map_get hd
          refine ⟨trivial, ?_⟩
          walk_at "go2"
          refine k_strI (log_small (by omega) (by omega)) ?_
          have hrl : rows.length ≤ 4 := by
            have := congrArg List.length hr2
            rw [List.length_map, List.length_take] at this
            omega
          have hts := t_ok (r := r) (by assumption) (by assumption)
          refine b_addS (by have := hts.2; rw [Str.length_append] at this; rw [sizeLine_eq]; omega) ?_
          walk_at "go"
          refine ⟨by rw [List.length_map, sizeLine_eq]; omega, rows ++ [(x, _)], _, by rw [List.map_append]; rfl, ?_, fun e he => ?_, rfl, by assumption⟩
          · rw [List.map_append, hr2, List.take_add_one, hx]
            rfl
          · rcases List.mem_append.mp he with z | z
            · exact hr3 e z
            · rw [List.mem_singleton.mp z]
              exact hts
        · rintro acc G ⟨rows, bx, rfl, hr2, hr3, rfl, hbx⟩
          rw [List.length_map, List.take_length] at hr2
          refine ⟨trivial, ?_⟩
          walk_at "go"
          refine k_tupL ls_val ?_
          walk_at "go"
          refine lcm_ D.str beh1 o_versions_1 w_versions_1 h_versions_1 (by rfl) B (by walk_at "at") (by rfl) (by decide +kernel) (by decide +kernel) (it_tup ?_)
          walk_at "go"
          refine ⟨_, rfl, zt.take r.toNat, by rw [cutD_map, cutA_to (by assumption)], trivial, by rw [List.length_take, sizeLine_eq]; omega, fun i x hx => ?_, ?_⟩
          · have hx2 := (names8_ok x (hz8 x (List.mem_of_mem_take (List.mem_of_getElem? hx)))).2.1
            have l1 : (Str.ofString "z").length = 1 := rfl
            have l2 : sizeLine = _ := sizeLine_eq
            walk_at "go"
            exact ⟨rfl, rfl⟩
          · walk_at "go"
            refine k_tupL ls_val ?_
            walk_at "go"
            have hrm : ∀ e ∈ rows, e.1 ∈ zt := fun e he => by rw [← hr2]; exact List.mem_map.mpr ⟨e, he, rfl⟩
            have hrl : rows.length ≤ 4 := by
              have := congrArg List.length hr2
              rw [List.length_map] at this
              omega
            exact ⟨_, num + 1, rows, zt.take r.toNat, _, _, rfl, rfl, by assumption, .inr ⟨rfl, fun e he => ⟨hz8 _ (hrm e he), hr3 e he⟩, by rw [hr2]; exact hzn, by omega, by rw [List.length_take]; omega, fun x hx => hz8 x (List.mem_of_mem_take hx)⟩⟩
    rintro σ G ⟨bx2, num', pgs', beh', y6', y9', rfl, rfl, hb2, hn⟩
    walk_at "go"
    refine ⟨vs ++ [⟨num', cnt + 1 + r1, tim + r, pgs', beh'⟩], bx2, num', cnt + 1 + r1, tim + r, pgs', beh', _, _, _, _, _, rfl, ?_, hb2, vi_next hv hi5 (by omega) (by omega) hn, fun _ => ⟨rfl, rfl⟩⟩
    rw [List.map_append]
    rfl
  · rintro σ G ⟨vs, bx, num, cnt, tim, pgs, beh, y5, y6, y7, y8, y9, rfl, rfl, hbx, hv, hy⟩
    refine sfrz_ (i := 1) (by walk_at "at") .here (by walk_at "at") ?_
    walk_at "go"
    refine q vs _ (vi_ok hv (by omega)) (fun z => ?_) hbx
    have := hv.len
    rw [z] at this
    have : (0 : Nat) = _ := this
    omega
theorem fn_versions {f : Addr} {fd : FuncData} (F : Fun K "_law_versions" "_law_versions" s_versions f fd) (T : Txt P w K mg base C_PageError C_NotKept C_UnlikeLetters C_Mirror) (c_draw : Cal P w K mg base 1 "_law_draw" 2 spDraw) (c_pages : CalS P w K mg base 3 "_law_pages" 1 sp_pages) : FnG P w K mg base 4 f fd ["_law_box"] (toSp K 1 sp_versions) :=
  fnD F d_versions fun X B Bt0 ds Gs Qd Rd _ h => ok_versions B Bt0 T c_draw c_pages ds Gs Qd Rd h

def sp_letters : SpD := fun ds Gs Q _ => ∃ (v : Ver), ds = [verD v] ∧ VGood v ∧ Gs = [] ∧ Q (.lst ((letV v).map ltD)) []
theorem ok_letters {X : Cx} (B : Bd X P w K mg base (defScope s_letters) n_letters v_letters g_letters 0) (Bt0 : Bt X) (T : Txt P w K mg base C_PageError C_NotKept C_UnlikeLetters C_Mirror) (ds : List D) (Gs : Pt) (Q : QD) (R : RX) (h : sp_letters ds Gs Q R) : SsD X (defBody s_letters) (startD n_letters ds) Gs ⟨fun _ G => Q .non G, Q, fun _ _ => False, fun _ _ => False, R⟩ := by
  have m_tuple := T.m_tuple
  have i_Mirror := T.i_Mirror
  obtain ⟨v, rfl, hv, rfl, q⟩ := h
  rw [z_letters]
  have hl := hv.len
  refine ssc_ ?_
  walk_at "go"
  refine slcm2_ (fun e : Str × Str => .str e.1) (fun e : Str × Str => .str e.2) (fun e : Str × Str => ltD (.page v.n e.1 e.2)) o_letters_0 w_letters_0 h_letters_0 (by rfl) B (by walk_at "at") (by walk_at "at") (by walk_at "at") (by rfl) (by rfl) (by decide) (by decide +kernel) (by rfl) (by rfl) (by decide +kernel) (by decide +kernel) (by decide +kernel) (it_tup ?_)
  walk_at "go"
  refine ⟨_, rfl, v.pgs, rfl, trivial, by rw [sizeLine_eq]; omega, fun i e he => ?_, ?_⟩
  · walk_at "go"
    exact ⟨rfl, rfl⟩
  refine ⟨_, by walk_at "at", ?_⟩
  walk_at "go"
  refine lcm2_ (fun e : Str × Str => .str e.1) (fun e : Str × Str => .str e.2) (fun e : Str × Str => .str e.1) o_letters_1 w_letters_1 h_letters_1 (by rfl) B (by walk_at "at") (by walk_at "at") (by rfl) (by rfl) (by decide) (by decide +kernel) (by decide +kernel) (it_tup ?_)
  walk_at "go"
  refine ⟨_, rfl, v.pgs, rfl, trivial, by rw [sizeLine_eq]; omega, fun i e he => ?_, ?_⟩
  · walk_at "go"
    exact ⟨rfl, rfl⟩
  walk_at "go"
  refine k_tupL ls_val ?_
  walk_at "go"
  have e : (letV v).map ltD = (v.pgs.map fun e => ltD (.page v.n e.1 e.2)) ++ [.tup [.str "seal", .int v.n, .int v.c, .int v.t, .tup (v.pgs.map fun e => .str e.1), behD v.beh]] := by
    unfold letV
    rw [List.map_append, List.map_map]
    show _ ++ [D.tup [.str "seal", .int v.n, .int v.c, .int v.t, .tup ((v.pgs.map (·.1)).map .str), behD v.beh]] = _
    rw [List.map_map]
    rfl
  rw [e] at q
  exact b_cat ls_val ls_val (by rw [List.length_map, List.length_singleton, sizeLine_eq]; omega) q
theorem fn_letters {f : Addr} {fd : FuncData} (F : Fun K "_law_letters" "_law_letters" s_letters f fd) (T : Txt P w K mg base C_PageError C_NotKept C_UnlikeLetters C_Mirror) : FnG P w K mg base 1 f fd ["_law_version"] (toSp K 1 sp_letters) :=
  fnD F d_letters fun X B Bt0 ds Gs Qd Rd _ h => ok_letters B Bt0 T  ds Gs Qd Rd h
def sp_hear (P : Program) (w : World) (C : Addr) : SpD := fun ds Gs Q R => ∃ (p pp pz : Addr) (a b : Int) (sh : D) (pg : Pg) (ss : Sls) (k : Nat) (l : Lt), ds = [.ref p, ltD l] ∧ Gs = [miPt P w C p pp pz a b sh pg ss] ∧ MiOk pg ss k ∧ k < 55 ∧ LtOk l ∧ dat 8 sh = true ∧
  (∀ pg' ss' a' b' sh', Heard pg ss l pg' ss' → Out pg' ss' a b sh a' b' sh' → dat 8 sh' = true → Q (.bl (!eqD sh' sh)) [miPt P w C p pp pz a' b' sh' pg' ss']) ∧ (Refused pg ss l → Q (.tup [.str "refused", .bl true]) [miPt P w C p pp pz a b sh pg ss])
theorem ok_hear {X : Cx} (B : Bd X P w K mg base (defScope s_hear) n_hear v_hear g_hear 5) (Bt0 : Bt X) (T : Txt P w K mg base C_PageError C_NotKept C_UnlikeLetters C_Mirror) (c_Mirror_hear : CalM P w K mg base 5 C_Mirror ns_Mirror "hear" 2 (sp_Mirror_hear P w C_UnlikeLetters C_Mirror)) (ds : List D) (Gs : Pt) (Q : QD) (R : RX) (h : (sp_hear P w C_Mirror) ds Gs Q R) : SsD X (defBody s_hear) (startD n_hear ds) Gs ⟨fun _ G => Q .non G, Q, fun _ _ => False, fun _ _ => False, R⟩ := by
  have m_isinstance := T.m_isinstance
  have i_Mirror := T.i_Mirror
  have x_PageError := T.x_PageError
  have gm_PageError := T.gm_PageError
  have e_PageError_PageError := T.e_PageError_PageError
  have e_PageError_NotKept := T.e_PageError_NotKept
  have e_PageError_UnlikeLetters := T.e_PageError_UnlikeLetters
  have q_PageError := T.q_PageError
  have kk_PageError_PageError := T.kk_PageError_PageError
  have kk_PageError_NotKept := T.kk_PageError_NotKept
  have kk_PageError_UnlikeLetters := T.kk_PageError_UnlikeLetters
  have x_NotKept := T.x_NotKept
  have gm_NotKept := T.gm_NotKept
  have e_NotKept_PageError := T.e_NotKept_PageError
  have e_NotKept_NotKept := T.e_NotKept_NotKept
  have e_NotKept_UnlikeLetters := T.e_NotKept_UnlikeLetters
  have q_NotKept := T.q_NotKept
  have kk_NotKept_PageError := T.kk_NotKept_PageError
  have kk_NotKept_NotKept := T.kk_NotKept_NotKept
  have kk_NotKept_UnlikeLetters := T.kk_NotKept_UnlikeLetters
  have x_UnlikeLetters := T.x_UnlikeLetters
  have gm_UnlikeLetters := T.gm_UnlikeLetters
  have e_UnlikeLetters_PageError := T.e_UnlikeLetters_PageError
  have e_UnlikeLetters_NotKept := T.e_UnlikeLetters_NotKept
  have e_UnlikeLetters_UnlikeLetters := T.e_UnlikeLetters_UnlikeLetters
  have q_UnlikeLetters := T.q_UnlikeLetters
  have kk_UnlikeLetters_PageError := T.kk_UnlikeLetters_PageError
  have kk_UnlikeLetters_NotKept := T.kk_UnlikeLetters_NotKept
  have kk_UnlikeLetters_UnlikeLetters := T.kk_UnlikeLetters_UnlikeLetters
  obtain ⟨p, pp, pz, a, b, sh, pg, ss, k0, l, rfl, rfl, ho, hk, hl, hsh, q1, q2⟩ := h
  rw [z_hear]
  refine ssc_ ?_
  walk_at "go"
  refine ⟨rfl, tk2_spot (by walk_at "spot") ⟨p, pp, pz, a, b, sh, pg, ss, k0, l, rfl, rfl, ho, hk, hl, hsh, fun pg' ss' a' b' sh' g1 g2 g3 => ⟨_, rfl, q1 pg' ss' a' b' sh' g1 g2 g3⟩, fun g => ⟨_, rfl, ?_⟩⟩⟩
  walk_at "go"
  exact q2 g
theorem fn_hear {f : Addr} {fd : FuncData} (F : Fun K "_law_hear" "_law_hear" s_hear f fd) (T : Txt P w K mg base C_PageError C_NotKept C_UnlikeLetters C_Mirror) (c_Mirror_hear : CalM P w K mg base 5 C_Mirror ns_Mirror "hear" 2 (sp_Mirror_hear P w C_UnlikeLetters C_Mirror)) : FnG P w K mg base 6 f fd ["_law_mirror", "_law_letter"] (toSp K 2 (sp_hear P w C_Mirror)) :=
  fnD F d_hear fun X B Bt0 ds Gs Qd Rd _ h => ok_hear B Bt0 T c_Mirror_hear ds Gs Qd Rd h
abbrev zzzD : D := .tup [.str "zzz", .tup [.str "failed", .str "zzz"]]
theorem unl_ok {v : Ver} (hv : VGood v) {l : Lt} (hl : l ∈ letV v) : ∀ {n : Int} {x t : Str}, l = .page n x t → LtOk (.page n x (t ++ "x")) := by
  rintro n x t rfl
  obtain ⟨_, h⟩ := letV_page.mp hl
  have := hv.nm _ h
  exact ⟨nms_ok this.1, okS_str (by rw [okS_add, this.2.1]; rfl)⟩
theorem sltOk_of {n c t n' c' t' : Int} {nms : List Str} {bs : List D} {xs : List Str} {ys : List D} (h : LtOk (.slt n c t nms (.tup bs))) (hx : xs.length ≤ 1 ∧ ∀ x ∈ xs, x = "zzz") (hn : nms.length ≤ 6) (hy : ∀ y ∈ ys, y = zzzD) : LtOk (.slt n' c' t' (nms ++ xs) (.tup (bs ++ ys))) := by
  have h0 := h.1
  have h2 : (([.tup (nms.map .str), .tup bs] : List D).all (dat 7)) = true := by simpa only [dat] using h0
  rw [List.all_cons, List.all_cons, Bool.and_eq_true, Bool.and_eq_true] at h2
  have h3 : (nms.map D.str).all (dat 6) = true := by simpa only [dat] using h2.1
  have h4 : bs.all (dat 6) = true := by simpa only [dat] using h2.2.1
  have hz : dat 6 (.str "zzz") = true := by
    have : PyData.strOk (Str.ofString "zzz") = true := by decide +kernel
    simpa only [dat] using this
  have hz2 : dat 6 zzzD = true := by decide +kernel
  have h5 : dat 7 (.tup ((nms ++ xs).map .str)) = true := by
    have : ((nms ++ xs).map D.str).all (dat 6) = true := by
      rw [List.map_append, List.all_append, h3, Bool.true_and]
      refine List.all_eq_true.mpr fun d hd => ?_
      obtain ⟨x, hx2, rfl⟩ := List.mem_map.mp hd
      rw [hx.2 x hx2]
      exact hz
    simpa only [dat] using this
  have h6 : dat 7 (.tup (bs ++ ys)) = true := by
    have : (bs ++ ys).all (dat 6) = true := by
      rw [List.all_append, h4, Bool.true_and]
      refine List.all_eq_true.mpr fun d hd => ?_
      rw [hy d hd]
      exact hz2
    simpa only [dat] using this
  refine ⟨?_, by rw [List.length_append]; omega⟩
  have : (([.tup ((nms ++ xs).map .str), .tup (bs ++ ys)] : List D).all (dat 7)) = true := by
    rw [List.all_cons, List.all_cons, h5, h6]
    rfl
  simpa only [dat] using this
def sp_unlike : SpD := fun ds Gs Q _ => ∃ (pb : Addr) (bx : M) (v : Ver) (l : Lt), ds = [.ref pb, ltD l] ∧ Gs = [[(pb, bx)]] ∧ isBox bx ∧ VGood v ∧ l ∈ letV v ∧ ∀ l' b', Unl l l' → LtOk l' → isBox b' → Q (ltD l') [[(pb, b')]]
theorem ok_unlike {X : Cx} (B : Bd X P w K mg base (defScope s_unlike) n_unlike v_unlike g_unlike 1) (Bt0 : Bt X) (T : Txt P w K mg base C_PageError C_NotKept C_UnlikeLetters C_Mirror) (c_draw : Cal P w K mg base 1 "_law_draw" 2 spDraw) (ds : List D) (Gs : Pt) (Q : QD) (R : RX) (h : sp_unlike ds Gs Q R) : SsD X (defBody s_unlike) (startD n_unlike ds) Gs ⟨fun _ G => Q .non G, Q, fun _ _ => False, fun _ _ => False, R⟩ := by
  have i_Mirror := T.i_Mirror
  obtain ⟨pb, bx, v, l, rfl, rfl, hb, hv, hl, q⟩ := h
  rw [z_unlike]
  have hok := letV_ok hv l hl
  refine ssc_ ?_
  cases l with
  | page n x t =>
    obtain ⟨_, hm⟩ := letV_page.mp hl
    have ht := (hv.nm _ hm).2.2
    have l1 : (Str.ofString "x").length = 1 := rfl
    unfold ltD
    walk_at "goif"
    refine sif_ (EvT.imp (Q := fun t G => t = true ∧ G = [[(pb, bx)]]) ?_ ?_)
    · walk_at "go"
      exact ⟨by decide +kernel, rfl⟩
    rintro t1 G ⟨rfl, rfl⟩
    walk_at "br"
    walk_at "go"
    refine b_addS (by have : t.length ≤ 10 := ht; rw [sizeLine_eq]; omega) ?_
    walk_at "go"
    exact q _ _ .page (unl_ok hv hl rfl) hb
  | slt n c t nms beh =>
    obtain ⟨_, _, _, hn, rfl⟩ := letV_slt.mp hl
    have hnl : nms.length ≤ 6 := by rw [hn, List.length_map]; exact hv.len
    have hbl : v.beh.length ≤ 6 := hv.bh.1
    have e1 : ∀ n' c' t', LtOk (.slt n' c' t' (nms ++ [("zzz" : Str)]) (behD v.beh)) := fun n' c' t' => by
      have := sltOk_of (n' := n') (c' := c') (t' := t') (xs := [("zzz" : Str)]) (ys := []) hok ⟨Nat.le_refl _, fun x hx => List.mem_singleton.mp hx⟩ hnl (fun y hy => by cases hy)
      rwa [List.append_nil] at this
    have e2 : ∀ n' c' t', LtOk (.slt n' c' t' nms (.tup (v.beh.map beh1 ++ [zzzD]))) := fun n' c' t' => by
      have := sltOk_of (n' := n') (c' := c') (t' := t') (xs := []) (ys := [zzzD]) hok ⟨Nat.zero_le _, fun x hx => by cases hx⟩ hnl (fun y hy => List.mem_singleton.mp hy)
      rwa [List.append_nil] at this
    have e0 : nms.map D.str ++ [D.str "zzz"] = (nms ++ [("zzz" : Str)]).map D.str := by rw [List.map_append]; rfl
    have e3 : ∀ n' c' t', LtOk (.slt n' c' t' nms (behD v.beh)) := fun n' c' t' => hok
    unfold ltD
    walk_at "goif"
    refine sif_ (EvT.imp (Q := fun t G => t = false ∧ G = [[(pb, bx)]]) ?_ ?_)
    · walk_at "go"
      exact ⟨by decide +kernel, rfl⟩
    rintro t1 G ⟨rfl, rfl⟩
    walk_at "br"
    walk_at "go2"
    · rw [e0]
      exact q _ b' .s0 (e1 n c t) (by assumption)
    · exact q _ b' (.s1 (r := r) (d := zzzD)) (e2 n (c + r) t) (by assumption)
    · rw [e0]
      exact q _ b' .s2 (e1 n (c + 9) (t + 1)) (by assumption)
    · exact q _ b' .s3 (e3 n c (t + 1)) (by assumption)
theorem fn_unlike {f : Addr} {fd : FuncData} (F : Fun K "_law_unlike" "_law_unlike" s_unlike f fd) (T : Txt P w K mg base C_PageError C_NotKept C_UnlikeLetters C_Mirror) (c_draw : Cal P w K mg base 1 "_law_draw" 2 spDraw) : FnG P w K mg base 2 f fd ["_law_box", "_law_letter"] (toSp K 2 sp_unlike) :=
  fnD F d_unlike fun X B Bt0 ds Gs Qd Rd _ h => ok_unlike B Bt0 T c_draw ds Gs Qd Rd h
theorem comp_eq {hs : List Lt} {v : Ver} (hv : VGood v) : eqD (.lst (((letV v).filter fun l => !memB hs l).map ltD)) (.lst []) = compB hs v := by
  have hd : dat 9 (.lst (((letV v).filter fun l => !memB hs l).map ltD)) = true := by
    have : (((letV v).filter fun l => !memB hs l).map ltD).all (dat 8) = true := List.all_eq_true.mpr fun d hd => by
      obtain ⟨l, hl, rfl⟩ := List.mem_map.mp hd
      exact ltOk_dat (letV_ok hv l (List.mem_filter.mp hl).1)
    simpa only [dat] using this
  rw [Bool.eq_iff_iff, eqD_iff (n := 9) (m := 9) hd rfl]
  unfold compB
  constructor
  · intro e
    injection e with e
    have e2 := List.map_eq_nil_iff.mp e
    refine List.all_eq_true.mpr fun x hx => ?_
    have := List.filter_eq_nil_iff.mp e2 x hx
    simpa using this
  · intro e
    have : ((letV v).filter fun l => !memB hs l) = [] := List.filter_eq_nil_iff.mpr fun x hx => by
      have := List.all_eq_true.mp e x hx
      simp [this]
    rw [this]
    rfl
theorem let_len {v : Ver} (hv : VGood v) : (letV v).length ≤ 7 := by
  unfold letV
  rw [List.length_append, List.length_map, List.length_singleton]
  have := hv.len
  omega
def sp_shown : SpD := fun ds Gs Q _ => ∃ (ph : Addr) (hs : List Lt) (vs : List Ver), ds = [.ref ph, .lst (vs.map verD)] ∧ Gs = [[(ph, .lst (hs.map ltD))]] ∧ VsOk vs ∧ (∀ m ∈ hs, LtOk m) ∧ Q (verD (shownV hs vs)) [[(ph, .lst (hs.map ltD))]]
theorem ok_shown {X : Cx} (B : Bd X P w K mg base (defScope s_shown) n_shown v_shown g_shown 1) (Bt0 : Bt X) (T : Txt P w K mg base C_PageError C_NotKept C_UnlikeLetters C_Mirror) (c_letters : Cal P w K mg base 1 "_law_letters" 1 sp_letters) (ds : List D) (Gs : Pt) (Q : QD) (R : RX) (h : sp_shown ds Gs Q R) : SsD X (defBody s_shown) (startD n_shown ds) Gs ⟨fun _ G => Q .non G, Q, fun _ _ => False, fun _ _ => False, R⟩ := by
  have i_Mirror := T.i_Mirror
  obtain ⟨ph, hs, vs, rfl, rfl, hv, hh, q⟩ := h
  rw [z_shown]
  have hds : (hs.map ltD).all (shN 8) = true := List.all_eq_true.mpr fun d hd => by
    obtain ⟨m, hm, rfl⟩ := List.mem_map.mp hd
    exact dat_sh _ _ (ltOk_dat (hh m hm))
  have hsh : shN 9 (.lst (hs.map ltD)) = true := by simpa only [shN] using hds
  refine ssc_ ?_
  walk_at "gofor"
  refine fl_ verD B ?_
  walk_at "go"
  refine ⟨vs, rfl, fun i σ G => ∃ (u : Ver) (y3 y4 : Option D), σ = [some (.ref ph), some (.lst (vs.map verD)), some (verD u), y3, y4] ∧ G = [[(ph, .lst (hs.map ltD))]] ∧ u = (vs.take i).foldl (stepV hs) v0, ⟨v0, _, _, rfl, rfl, rfl⟩, ?_, ?_⟩
  · rintro i v σ G hi ⟨u, y3, y4, rfl, rfl, hu⟩
    have hg := hv.good v (List.mem_of_getElem? hi)
    have hln := let_len hg
    have hst : (vs.take (i + 1)).foldl (stepV hs) v0 = stepV hs u v := by rw [List.take_add_one, hi, List.foldl_append, ← hu]; rfl
    walk_at "goif"
    refine sif_ (EvT.imp (Q := fun t G => t = compB hs v ∧ G = [[(ph, .lst (hs.map ltD))]]) ?_ ?_)
    · walk_at "go"
      refine lcf_ ltD ltD (fun l => !memB hs l) o_shown_0 w_shown_0 h_shown_0 (by rfl) B (by walk_at "at") (by rfl) (by decide +kernel) (by decide +kernel) (it_lst ?_)
      walk_at "go"
      refine ⟨rfl, v, rfl, hg, rfl, ?_⟩
      refine ⟨_, rfl, letV v, rfl, trivial, by rw [sizeLine_eq]; omega, fun i l hl => ?_, fun i l hl _ => ?_, ?_⟩
      · have hlo := letV_ok hg l (List.mem_of_getElem? hl)
        walk_at "go"
        refine c_ninL (n := 8) (m := 9) (d := ltD l) (ds := hs.map ltD) BY (isd_val (dat_sh _ _ (ltOk_dat hlo))) (isd_own (n := 8) ?_ hds) (dat_sh _ _ (ltOk_dat hlo)) hsh (by decide) (by decide) ?_
        · walk_at "cell"
        walk_at "go"
        exact ⟨rfl, rfl⟩
      · walk_at "go"
        exact ⟨rfl, rfl⟩
      walk_at "go"
      have hf : shN 9 (.lst (((letV v).filter fun l => !memB hs l).map ltD)) = true := by
        have : (((letV v).filter fun l => !memB hs l).map ltD).all (shN 8) = true := List.all_eq_true.mpr fun d hd => by
          obtain ⟨l, hl, rfl⟩ := List.mem_map.mp hd
          exact dat_sh _ _ (ltOk_dat (letV_ok hg l (List.mem_filter.mp hl).1))
        simpa only [shN] using this
      refine c_eqV (n := 9) (m := 9) B (isd_val hf) (isd_val (n := 9) rfl) hf rfl (by decide) (by decide) ?_
      rw [comp_eq hg]
      walk_at "go"
      exact ⟨rfl, rfl⟩
    rintro t G ⟨rfl, rfl⟩
    cases hc : compB hs v with
    | false =>
      walk_at "br"
      walk_at "go"
      refine ⟨u, _, _, rfl, rfl, ?_⟩
      rw [hst]
      unfold stepV
      rw [hc, Bool.false_and, if_neg Bool.false_ne_true]
    | true =>
      walk_at "br"
      walk_at "go"
      refine c_gtT2 B ?_
      walk_at "go2"
      · refine ⟨v, _, _, rfl, rfl, ?_⟩
        rw [hst]
        unfold stepV
        rw [hc, Bool.true_and, if_pos (decide_eq_true h)]
      · refine ⟨u, _, _, rfl, rfl, ?_⟩
        rw [hst]
        unfold stepV
        rw [hc, Bool.true_and, if_neg (by simpa using h)]
  · rintro σ G ⟨u, y3, y4, rfl, rfl, hu⟩
    rw [List.take_length] at hu
    rw [show u = shownV hs vs from hu]
    walk_at "go"
    exact q
theorem fn_shown {f : Addr} {fd : FuncData} (F : Fun K "_law_shown" "_law_shown" s_shown f fd) (T : Txt P w K mg base C_PageError C_NotKept C_UnlikeLetters C_Mirror) (c_letters : Cal P w K mg base 1 "_law_letters" 1 sp_letters) : FnG P w K mg base 2 f fd ["_law_heard", "_law_versions_here"] (toSp K 2 sp_shown) :=
  fnD F d_shown fun X B Bt0 ds Gs Qd Rd _ h => ok_shown B Bt0 T c_letters ds Gs Qd Rd h

theorem rp_s {n : Nat} {x : Str} (h : okS x = true) (hl : x.length ≤ 10) : Rp n 102 (.str x) := (okS_rp (m := 10) h hl).mono (by decide)
theorem rp_ver {v : Ver} (h : (∀ e ∈ v.pgs, e.1 ∈ names8 ∧ okS e.2 = true ∧ e.2.length ≤ 10) ∧ v.pgs.length ≤ 6 ∧ v.beh.length ≤ 6 ∧ (∀ x ∈ v.beh, x ∈ names8) ∧ 0 ≤ v.n ∧ v.n ≤ 10 ∧ 0 ≤ v.c ∧ v.c ≤ 100 ∧ 0 ≤ v.t ∧ v.t ≤ 1000) : Rp 4 12958 (verD v) := by
  obtain ⟨h1, h2, h3, h4, h5, h6, h7, h8, h9, h10⟩ := h
  have two : ∀ {n wt : Nat} {x y : D}, Rp n wt x → Rp n wt y → Rp (n + 1) (2 * (wt + 2) + 3) (.tup [x, y]) := fun {n wt x y} hx hy => rp_tup (n := n) (wt := wt) (m := 2) (fun d hd => by
    simp only [List.mem_cons, List.not_mem_nil, or_false] at hd
    rcases hd with rfl | rfl
    · exact hx
    · exact hy) (Nat.le_refl _)
  have hp : Rp 3 2589 (pgD v.pgs) := Rp.mono (rp_tup (n := 2) (wt := 211) (m := 6) (fun d hd => by
    obtain ⟨e, he, rfl⟩ := List.mem_map.mp hd
    have g := h1 e he
    have g2 := names8_ok _ g.1
    exact two (n := 1) (wt := 102) (rp_s g2.1 (by omega)) (rp_s g.2.1 g.2.2)) (by rw [List.length_map]; exact h2)) (by decide)
  have hb : Rp 3 2589 (behD v.beh) := rp_tup (n := 2) (wt := 429) (m := 6) (fun d hd => by
    obtain ⟨x, hx, rfl⟩ := List.mem_map.mp hd
    have g2 := names8_ok _ (h4 x hx)
    have g3 : okS (x ++ "z") = true := by rw [okS_add, g2.1]; rfl
    have g4 : (x ++ "z").length ≤ 10 := by
      rw [Str.length_append]
      have : (Str.ofString "z").length = 1 := rfl
      omega
    exact two (n := 1) (wt := 211) ((rp_s g3 g4).mono (by decide)) (two (n := 0) (wt := 102) (rp_s (by decide +kernel) (by decide +kernel)) (rp_s g2.1 (by omega)))) (by rw [List.length_map]; exact h3)
  have hi : ∀ i : Int, 0 ≤ i → i ≤ 1000 → Rp 3 2589 (.int i) := fun i g1 g2 => (rp_int (log_small (by omega) (by omega))).mono (by decide)
  refine rp_tup (n := 3) (wt := 2589) (m := 5) (fun d hd => ?_) (Nat.le_refl _)
  simp only [List.mem_cons, List.not_mem_nil, or_false] at hd
  rcases hd with rfl | rfl | rfl | rfl | rfl
  · exact hi _ h5 (by omega)
  · exact hi _ h7 (by omega)
  · exact hi _ h9 h10
  · exact hp
  · exact hb
theorem rp_shown {hs : List Lt} {vs : List Ver} (hv : VsOk vs) : Rp 4 12958 (verD (shownV hs vs)) ∧ (∀ e ∈ (shownV hs vs).pgs, okS e.2 = true ∧ e.2.length ≤ 10) ∧ (shownV hs vs).pgs.length ≤ 6 ∧ dat 8 (verD (shownV hs vs)) = true := by
  rcases shown_best (hs := hs) hv with ⟨z, _⟩ | ⟨z, _⟩
  · rw [z]
    exact ⟨rp_ver ⟨(fun _ h => absurd h List.not_mem_nil), by decide, by decide, (fun _ h => absurd h List.not_mem_nil), by decide, by decide, by decide, by decide, by decide, by decide⟩, (fun _ h => absurd h List.not_mem_nil), by decide, by decide +kernel⟩
  · have g := hv.good _ z
    exact ⟨rp_ver ⟨g.nm, g.len, g.bh.1, g.bh.2, by have := g.pos.1; omega, g.bd.1, by have := g.pos.2.1; omega, g.bd.2.1, g.pos.2.2, g.bd.2.2⟩, fun e he => (g.nm e he).2, g.len, ver_dat g⟩
theorem flat_len7 {vs : List Ver} (h : ∀ v ∈ vs, VGood v) : (vs.flatMap letV).length ≤ 7 * vs.length := by
  induction vs with
  | nil => exact Nat.zero_le _
  | cons v vs ih =>
    rw [List.flatMap_cons, List.length_append, List.length_cons]
    have h1 := let_len (h v List.mem_cons_self)
    have h2 := ih fun u hu => h u (List.mem_cons_of_mem _ hu)
    omega
theorem head_get {l : List (Str × Str)} {x : Str} : (l.filter fun e => decide (e.1 = x)).head?.map (·.2) = getA l x := by
  unfold getA
  rw [List.head?_filter]
theorem ok_law {X : Cx} (B : Bd X P w K mg base (defScope s_law) n_law v_law g_law 6) (Bt0 : Bt X) (T : Txt P w K mg base C_PageError C_NotKept C_UnlikeLetters C_Mirror) (c_digits : Cal P w K mg base 2 "_law_digits" 3 spDigits) (c_draw : Cal P w K mg base 1 "_law_draw" 2 spDraw) (c_versions : CalS P w K mg base 4 "_law_versions" 1 sp_versions) (c_letters : Cal P w K mg base 1 "_law_letters" 1 sp_letters) (c_alike : CalX P w K mg base 1 "_law_alike" 2 sp_alike) (c_hear : CalX P w K mg base 6 "_law_hear" 2 (sp_hear P w C_Mirror)) (c_unlike : CalX P w K mg base 2 "_law_unlike" 2 sp_unlike) (c_shown : CalX P w K mg base 2 "_law_shown" 2 sp_shown) (c_Mirror_init : CalC P w K mg base 1 "Mirror" C_Mirror 1 [] (sp_Mirror_init P w C_Mirror)) (c_Mirror_shown : CalM P w K mg base 1 C_Mirror ns_Mirror "shown" 1 (sp_Mirror_shown P w C_Mirror)) (c_Mirror_page : CalM P w K mg base 1 C_Mirror ns_Mirror "page" 2 (sp_Mirror_page P w C_Mirror)) (ds : List D) (Gs : Pt) (Q : QD) (R : RX) (h : (spLaw 63) ds Gs Q R) : SsD X (defBody s_law) (startD n_law ds) Gs ⟨fun _ G => Q .non G, Q, fun _ _ => False, fun _ _ => False, R⟩ := by
  have m_range := T.m_range
  have m_min := T.m_min
  have m_max := T.m_max
  have m_len := T.m_len
  have i_Mirror := T.i_Mirror
  obtain ⟨ns, rfl, hns, rfl, q⟩ := h
  rw [z_law]
  refine ssc_ ?_
  walk_at "own"
  walk_at "go"
  refine ⟨rfl, ns, rfl, rfl, fun ms hms => ?_⟩
  walk_at "go"
  intro qx
  have hb0 := isBox_new ms
  walk_at "go"
  refine ⟨rfl, _, _, (by walk_at "spot"), qx, _, rfl, rfl, hb0, fun vs b1 hv hne hb1 => ⟨_, rfl, ?_⟩⟩
  refine sx_ (by walk_at "at") ?_
  clear hb0
  walk_at "gonil"
  walk_at "frz"
  walk_at "gofor"
  refine fl_ verD B ?_
  walk_at "go"
  refine ⟨vs, rfl, fun i σ G => ∃ (y4 : Option D), σ = [some (.scr ns), some (.ref qx), some (.lst (vs.map verD)), some (.lst (((vs.take i).flatMap letV).map ltD)), y4, none, none, none, none, none, none, none, none, none, none] ∧ G = [[(qx, b1)]], ⟨_, rfl, rfl⟩, ?_, ?_⟩
  · rintro i v σ G hi ⟨y4, rfl, rfl⟩
    have hg := hv.good v (List.mem_of_getElem? hi)
    have h7 := flat_len7 (vs := vs.take i) fun u hu => hv.good u (List.mem_of_mem_take hu)
    have h5 := hv.len
    have hll := let_len hg
    rw [List.length_take] at h7
    walk_at "go"
    refine ⟨rfl, v, rfl, hg, rfl, ?_⟩
    refine b_cat ls_val ls_val (by rw [List.length_map, List.length_map, sizeLine_eq]; omega) ?_
    walk_at "go"
    have e1 : ((vs.take (i + 1)).flatMap letV).map ltD = ((vs.take i).flatMap letV).map ltD ++ (letV v).map ltD := by
      rw [List.take_add_one, hi, List.flatMap_append, List.map_append]
      simp
    exact ⟨some (verD v), by rw [e1], rfl⟩
  rintro σ G ⟨y4, rfl, rfl⟩
  rw [List.take_length]
  have hlm : ∀ l ∈ vs.flatMap letV, ∃ v ∈ vs, l ∈ letV v := fun l hl => List.mem_flatMap.mp hl
  have hl0 : 0 < (vs.flatMap letV).length := by
    obtain ⟨v, vs', rfl⟩ := List.exists_cons_of_ne_nil hne
    rw [List.flatMap_cons, List.length_append]
    unfold letV
    rw [List.length_append, List.length_singleton]
    omega
  have hl35 : (vs.flatMap letV).length ≤ 35 := by have := flat_len7 hv.good; have := hv.len; omega
  generalize vs.flatMap letV = ls at *
  walk_at "go"
  refine ⟨rfl, ⟨fun p => ⟨p, rfl, rfl, fun pp pz => ⟨rfl, ?_⟩⟩⟩⟩
  rw [List.singleton_append]
  walk_at "gonil"
  walk_at "own"
  walk_at "go"
  intro ph
  walk_at "goif"
  have hr0 := (rp_shown (hs := []) hv).1
  have e0 : shownV [] vs = v0 := by
    have := (mi_0 hv).best.1
    rcases shown_best (hs := []) hv with ⟨z, _⟩ | ⟨z, z2, _⟩
    · exact z
    · rcases (mi_0 hv).best.2 with ⟨y, _⟩ | ⟨_, _, y, _⟩
      · rw [y _ z] at z2; cases z2
      · have := (hv.good _ z).pos.1; omega
  rw [e0] at hr0
  refine sif_ (EvT.imp (Q := fun t G => t = false ∧ G = [[(ph, .lst [])], miPt P w C_Mirror p pp pz (0 - 1) (0 - 1) (verD v0) [] [], [(qx, b1)]]) ?_ ?_)
  · walk_at "go"
    refine ⟨rfl, tk2_spot (by walk_at "spot") ⟨p, pp, pz, 0 - 1, 0 - 1, verD v0, [], [], rfl, rfl, ⟨_, rfl, ?_⟩⟩⟩
    walk_at "go"
    refine ⟨rfl, tk2_pick .nil ⟨verD v0, verD v0, 4, _, rfl, fun K => isd_val hr0.sh, hr0, by decide, by rw [sizeLine_eq]; decide, _, Sb.refl, ?_⟩⟩
    rw [List.nil_append]
    walk_at "go"
    refine ⟨fun z => (by cases z), fun _ => ?_⟩
    walk_at "go"
    refine ⟨rfl, tk2_spot (by walk_at "spot") ⟨p, pp, pz, 0 - 1, 0 - 1, .int 0, .int 0, .int 0, [], .tup [], [], [], _, rfl, rfl, ⟨_, rfl, ?_⟩⟩⟩
    rw [show ((getA ([] : List (Str × Str)) (Str.ofString "a")).map D.str).getD .non = .non from rfl]
    walk_at "go"
    exact ⟨rfl, rfl⟩
  rintro t G ⟨rfl, rfl⟩
  walk_at "br"
  walk_at "go"
  generalize hgm : (if (50 : Int) < (if (ns.length : Int) - 4 > 0 then (ns.length : Int) - 4 else 0) then (50 : Int) else if (ns.length : Int) - 4 > 0 then (ns.length : Int) - 4 else 0) = mx
  have hmx : 0 ≤ mx ∧ mx ≤ 50 := by
    rw [← hgm]
    split
    · omega
    · split at * <;> omega
  have hok0 : MiOk [] [] 0 := ⟨List.nodup_nil, Nat.le_refl _, Nat.le_refl _, (fun _ h => absurd h List.not_mem_nil), (fun _ h => absurd h List.not_mem_nil), (fun _ h => absurd h List.not_mem_nil)⟩
  refine ⟨by omega, by omega, fun i σ G => ∃ (hs : List Lt) (pg : Pg) (ss : Sls) (a b : Int) (bx : M) (y4 y8 y9 y10 y11 y12 y13 y14 : Option D), σ = [some (.scr ns), some (.ref qx), some (.lst (vs.map verD)), some (.lst (ls.map ltD)), y4, some (.ref p), some (.ref ph), some (verD (shownV hs vs)), y8, y9, y10, y11, y12, y13, y14] ∧ G = [[(ph, .lst (hs.map ltD))], miPt P w C_Mirror p pp pz a b (verD (shownV hs vs)) pg ss, [(qx, bx)]] ∧ isBox bx ∧ MI vs hs pg ss a b (verD (shownV hs vs)) ∧ MiOk pg ss i ∧ hs.length = i, ⟨[], [], [], 0 - 1, 0 - 1, b1, y4, none, none, none, none, none, none, none, by rw [e0]; rfl, by rw [e0]; rfl, hb1, by rw [e0]; exact mi_0 hv, hok0, rfl⟩, ?_, ?_⟩
  · rintro i σ G hi ⟨hs, pg, ss, a, b, bx, y4, y8, y9, y10, y11, y12, y13, y14, rfl, rfl, hbx, hmi, hok, hln⟩
    have hi50 : i < 50 := by omega
    have hhs : ∀ m ∈ hs, LtOk m := hmi.mh.ok hv
    have hll0 : 0 < (ls.map ltD).length := by rw [List.length_map]; exact hl0
    walk_at "go"
    have hb2 : isBox b' := by assumption
    clear hbx
    obtain ⟨l, el, hl, _⟩ := atI_in (l := ls) hr0 hr1
    refine ix_lst (atI_map (f := ltD) el) ?_
    obtain ⟨v, hvm, hlv⟩ := hlm l hl
    have hvg := hv.good v hvm
    have hlo := letV_ok hvg l hlv
    have hdl : shN 8 (ltD l) = true := dat_sh _ _ (ltOk_dat hlo)
    have hds : (hs.map ltD).all (shN 8) = true := List.all_eq_true.mpr fun d hd => by
      obtain ⟨m, hm, rfl⟩ := List.mem_map.mp hd
      exact dat_sh _ _ (ltOk_dat (hhs m hm))
    have hsh : shN 9 (.lst (hs.map ltD)) = true := by simpa only [shN] using hds
    have hshw := rp_shown (hs := hs) hv
    have hrf : shN 8 (.tup [.str "refused", .bl true]) = true := by decide +kernel
    clear hr0 hr1 el
    walk_at "goif"
    refine cut_ (fun σ G => ∃ (bx : M), σ = [some (.scr ns), some (.ref qx), some (.lst (vs.map verD)), some (.lst (ls.map ltD)), y4, some (.ref p), some (.ref ph), some (verD (shownV hs vs)), some (.int (i : Nat)), some (ltD l), y10, y11, y12, y13, y14] ∧ G = [[(ph, .lst (hs.map ltD))], miPt P w C_Mirror p pp pz a b (verD (shownV hs vs)) pg ss, [(qx, bx)]] ∧ isBox bx) ?_ ?_
    · refine sif_ (EvT.imp (Q := fun t G => ∃ bx, G = [[(ph, .lst (hs.map ltD))], miPt P w C_Mirror p pp pz a b (verD (shownV hs vs)) pg ss, [(qx, bx)]] ∧ isBox bx ∧ (t = true → l ∈ hs)) ?_ ?_)
      · walk_at "go"
        refine c_inL (n := 8) (m := 9) (d := ltD l) (ds := hs.map ltD) B (isd_val hdl) (isd_own (n := 8) ?_ hds) hdl hsh (by decide) (by decide) ?_
        · walk_at "cell"
        rw [show ((hs.map ltD).any fun e => eqD e (ltD l)) = memB hs l from rfl]
        walk_at "go"
        cases hmb : memB hs l with
        | false => exact ⟨fun z => (by cases z), fun _ => ⟨_, rfl, hb2, fun z => (by cases z)⟩⟩
        | true =>
          refine ⟨fun _ => ?_, fun z => (by cases z)⟩
          walk_at "go"
          exact ⟨_, rfl, by assumption, fun _ => (memB_iff hhs hlo).mp hmb⟩
      rintro t G ⟨bx2, rfl, hb3, hin⟩
      cases t with
      | false =>
        walk_at "br"
        walk_at "go"
        exact ⟨bx2, rfl, rfl, hb3⟩
      | true =>
        have hin := hin rfl
        walk_at "br"
        walk_at "goif"
        refine sif_ (EvT.imp (Q := fun t G => t = false ∧ ∃ bx, G = [[(ph, .lst (hs.map ltD))], miPt P w C_Mirror p pp pz a b (verD (shownV hs vs)) pg ss, [(qx, bx)]] ∧ isBox bx) ?_ ?_)
        · walk_at "go"
          refine ⟨rfl, tk2_spot (by walk_at "spot") ⟨qx, bx2, v, l, rfl, rfl, hb3, hvg, hlv, fun l' b4 hu ho4 hb4 => ⟨_, rfl, ?_⟩⟩⟩
          walk_at "go"
          refine ⟨rfl, tk2_spot (by walk_at "spot") ⟨p, pp, pz, a, b, verD (shownV hs vs), pg, ss, i, l', rfl, rfl, hok, by omega, ho4, hshw.2.2.2, fun pg' ss' a' b' sh' g1 _ _ => absurd g1 (unl_no hmi.mh hv hin hu), fun _ => ⟨_, rfl, ?_⟩⟩⟩
          walk_at "go"
          refine c_neT (n := 8) (d := .tup [.str "refused", .bl true]) B (isd_val hrf) (isd_val hrf) hrf (by decide) ?_
          walk_at "go"
          exact ⟨rfl, _, rfl, hb4⟩
        rintro t G ⟨rfl, bx3, rfl, hb4⟩
        walk_at "br"
        walk_at "go"
        exact ⟨bx3, rfl, rfl, hb4⟩
    clear hb2
    rintro σ G ⟨bx2, rfl, rfl, hb2⟩
    have hzl : (hs.map ltD).length < sizeLine := by rw [List.length_map, sizeLine_eq]; omega
    have em : hs.map ltD ++ [ltD l] = (hs ++ [l]).map ltD := by rw [List.map_append]; rfl
    have hhs2 : ∀ m ∈ hs ++ [l], LtOk m := fun m hm => by
      rcases List.mem_append.mp hm with z | z
      · exact hhs m z
      · rw [List.mem_singleton.mp z]; exact hlo
    have hshw2 := rp_shown (hs := hs ++ [l]) hv
    walk_at "go"
    rw [em]
    refine ⟨rfl, tk2_spot (by walk_at "spot") ⟨ph, hs ++ [l], vs, rfl, rfl, hv, hhs2, ⟨_, rfl, ?_⟩⟩⟩
    refine sx_ (by walk_at "at") ?_
    walk_at "goif"
    refine sif_ (EvT.imp (Q := fun t G => t = false ∧ ∃ (pg' : Pg) (ss' : Sls) (a' b' : Int), G = [[(ph, .lst ((hs ++ [l]).map ltD))], miPt P w C_Mirror p pp pz a' b' (verD (shownV (hs ++ [l]) vs)) pg' ss', [(qx, bx2)]] ∧ MI vs (hs ++ [l]) pg' ss' a' b' (verD (shownV (hs ++ [l]) vs)) ∧ MiOk pg' ss' (i + 1)) ?_ ?_)
    · walk_at "go"
      refine ⟨rfl, tk2_spot (by walk_at "spot") ⟨p, pp, pz, a, b, verD (shownV hs vs), pg, ss, i, l, rfl, rfl, hok, by omega, hlo, hshw.2.2.2, fun pg' ss' a' b' sh' g1 g2 g3 => ⟨_, rfl, ?_⟩, fun g => absurd g (not_refused hmi.mh hv hvm hlv)⟩⟩
      have hmi' := mi_next hmi hv hvm hlv g1 g2
      have hok' := heard_ok g1 hok hlo
      obtain rfl := hmi'.best.1
      walk_at "go"
      refine c_neV (n := 8) (m := 8) B (isd_val (dat_sh _ _ hshw2.2.2.2)) (isd_val (dat_sh _ _ hshw.2.2.2)) (dat_sh _ _ hshw2.2.2.2) (dat_sh _ _ hshw.2.2.2) (by decide) (by decide) ?_
      walk_at "go"
      have hrb : Rp 0 5 (.bl (!eqD (verD (shownV (hs ++ [l]) vs)) (verD (shownV hs vs)))) := rp_bl
      refine ⟨rfl, tk2_pick .nil ⟨_, _, 0, _, rfl, fun K => isd_val hrb.sh, hrb, by decide, by rw [sizeLine_eq]; decide, _, Sb.refl, ?_⟩⟩
      rw [List.nil_append]
      walk_at "go"
      refine ⟨fun z => (by cases z), fun _ => ?_⟩
      walk_at "go"
      refine ⟨rfl, tk2_spot (by walk_at "spot") ⟨p, pp, pz, a', b', verD (shownV (hs ++ [l]) vs), pg', ss', rfl, rfl, ⟨_, rfl, ?_⟩⟩⟩
      walk_at "go"
      refine ⟨rfl, tk2_pick .nil ⟨_, _, 4, _, rfl, fun K => isd_val hshw2.1.sh, hshw2.1, by decide, by rw [sizeLine_eq]; decide, _, Sb.refl, ?_⟩⟩
      rw [List.nil_append]
      walk_at "go"
      exact ⟨rfl, pg', ss', a', b', rfl, hmi', hok'⟩
    rintro t G ⟨rfl, pg', ss', a', b', rfl, hmi', hok'⟩
    clear hmi hok hshw
    walk_at "br"
    walk_at "gofor"
    have hpl := hshw2.2.2.1
    have hpo := hshw2.2.1
    generalize hu : shownV (hs ++ [l]) vs = u at *
    refine fl_ D.str B ?_
    walk_at "go"
    refine ⟨[("a" : Str), "b", "ab", "zz"], rfl, fun j σ G => ∃ (y11 y12 y13 y14 : Option D), σ = [some (.scr ns), some (.ref qx), some (.lst (vs.map verD)), some (.lst (ls.map ltD)), y4, some (.ref p), some (.ref ph), some (verD u), some (.int (i : Nat)), some (ltD l), some (verD u), y11, y12, y13, y14] ∧ G = [[(ph, .lst ((hs ++ [l]).map ltD))], miPt P w C_Mirror p pp pz a' b' (verD u) pg' ss', [(qx, bx2)]], ⟨_, _, _, _, rfl, rfl⟩, ?_, ?_⟩
    · rintro j x σ G hj ⟨y11, y12, y13, y14, rfl, rfl⟩
      have hgt : ∀ t, getA u.pgs x = some t → okS t = true ∧ t.length ≤ 10 := fun t e => hpo _ (getA_mem e)
      have hhd := head_get (l := u.pgs) (x := x)
      have htx : shN 1 (.lst ((u.pgs.filter fun e => decide (e.1 = x)).map fun e => .str e.2)) = true := by
        simp only [shN, List.all_eq_true]
        intro d hd
        obtain ⟨e, he, rfl⟩ := List.mem_map.mp hd
        exact okS_str (hpo e (List.mem_filter.mp he).1).1
      walk_at "go"
      refine slcf_ (fun e : Str × Str => .tup [.str e.1, .str e.2]) (fun e : Str × Str => .str e.2) (fun e : Str × Str => decide (e.1 = x)) o_law_0 w_law_0 h_law_0 (by rfl) B (by walk_at "at") (by walk_at "at") (by rfl) (by decide +kernel) (by rfl) (by rfl) (by decide +kernel) (by decide +kernel) (by decide +kernel) (it_tup ?_)
      walk_at "go"
      refine ⟨_, rfl, u.pgs, rfl, trivial, by rw [sizeLine_eq]; omega, fun k e he => ?_, fun k e he _ => ?_, ?_⟩
      · walk_at "go"
        exact ⟨rfl, rfl⟩
      · walk_at "go"
        exact ⟨rfl, rfl⟩
      refine ⟨_, by walk_at "at", ?_⟩
      walk_at "goif"
      refine cut_ (fun σ G => ∃ y12, σ = [some (.scr ns), some (.ref qx), some (.lst (vs.map verD)), some (.lst (ls.map ltD)), y4, some (.ref p), some (.ref ph), some (verD u), some (.int (i : Nat)), some (ltD l), some (verD u), some (.str x), y12, some (((getA u.pgs x).map D.str).getD .non), y14] ∧ G = [[(ph, .lst ((hs ++ [l]).map ltD))], miPt P w C_Mirror p pp pz a' b' (verD u) pg' ss', [(qx, bx2)]]) ?_ ?_
      · cases hf : u.pgs.filter fun e => decide (e.1 = x) with
        | nil =>
          rw [hf] at hhd htx
          rw [← hhd]
          refine sif_ (EvT.imp (Q := fun t G => t = false ∧ G = [[(ph, .lst ((hs ++ [l]).map ltD))], miPt P w C_Mirror p pp pz a' b' (verD u) pg' ss', [(qx, bx2)]]) ?_ ?_)
          · walk_at "go"
            refine c_neT (n := 1) (d := .lst []) B (isd_val (n := 1) rfl) (isd_val (n := 1) rfl) rfl (by decide) ?_
            walk_at "go"
            exact ⟨rfl, rfl⟩
          rintro t G ⟨rfl, rfl⟩
          walk_at "br"
          walk_at "go"
          exact ⟨_, rfl, rfl⟩
        | cons e r =>
          rw [hf] at hhd htx
          rw [← hhd]
          refine sif_ (EvT.imp (Q := fun t G => t = true ∧ G = [[(ph, .lst ((hs ++ [l]).map ltD))], miPt P w C_Mirror p pp pz a' b' (verD u) pg' ss', [(qx, bx2)]]) ?_ ?_)
          · walk_at "go"
            refine c_neV (n := 1) (m := 1) B (isd_val htx) (isd_val (n := 1) rfl) htx rfl (by decide) (by decide) ?_
            walk_at "go"
            refine ⟨?_, rfl⟩
            rw [Bool.not_eq_true']
            refine Bool.eq_false_iff.mpr fun z => ?_
            have z := (eqD_iff (n := 1) (m := 1) (by
              simp only [dat, List.all_eq_true]
              intro d hd
              obtain ⟨e', he, rfl⟩ := List.mem_map.mp hd
              simp only [dat]
              exact okS_str (hpo e' (List.mem_filter.mp (by rw [hf]; exact he)).1).1) rfl).mp z
            injection z with z
            cases z
          rintro t G ⟨rfl, rfl⟩
          walk_at "br"
          walk_at "go"
          refine ix_lst (d := .str e.2) (atI_nat (j := 0) rfl) ?_
          walk_at "go"
          exact ⟨_, rfl, rfl⟩
      rintro σ G ⟨y12', rfl, rfl⟩
      have hrq : Rp 0 102 (((getA u.pgs x).map D.str).getD .non) := by
        cases hg : getA u.pgs x with
        | none => exact rp_non.mono (by decide)
        | some t => exact rp_s (hgt t hg).1 (hgt t hg).2
      walk_at "goif"
      refine sif_ (EvT.imp (Q := fun t G => t = false ∧ G = [[(ph, .lst ((hs ++ [l]).map ltD))], miPt P w C_Mirror p pp pz a' b' (verD u) pg' ss', [(qx, bx2)]]) ?_ ?_)
      · walk_at "go"
        refine ⟨rfl, tk2_spot (by walk_at "spot") ⟨p, pp, pz, a', b', .int u.n, .int u.c, .int u.t, u.pgs, behD u.beh, pg', ss', x, rfl, rfl, ⟨_, rfl, ?_⟩⟩⟩
        walk_at "go"
        refine ⟨rfl, tk2_pick .nil ⟨_, _, 0, _, rfl, fun K => isd_val hrq.sh, hrq, by decide, by rw [sizeLine_eq]; decide, _, Sb.refl, ?_⟩⟩
        rw [List.nil_append]
        walk_at "go"
        exact ⟨rfl, rfl⟩
      rintro t G ⟨rfl, rfl⟩
      walk_at "br"
      walk_at "go"
      exact ⟨_, _, _, _, rfl, rfl⟩
    · rintro σ G ⟨y11, y12, y13, y14, rfl, rfl⟩
      walk_at "go"
      exact ⟨hs ++ [l], pg', ss', a', b', bx2, y4, _, _, _, _, _, _, _, by rw [hu], by rw [hu], hb2, by rw [hu]; exact hmi', hok', by rw [List.length_append, hln]; rfl⟩
  · rintro σ G ⟨hs, pg, ss, a, b, bx, y4, y8, y9, y10, y11, y12, y13, y14, rfl, rfl, hbx, hmi, hok, hln⟩
    walk_at "go"
    exact q _
theorem fn_law {f : Addr} {fd : FuncData} (F : Fun K "law" "law" s_law f fd) (T : Txt P w K mg base C_PageError C_NotKept C_UnlikeLetters C_Mirror) (c_digits : Cal P w K mg base 2 "_law_digits" 3 spDigits) (c_draw : Cal P w K mg base 1 "_law_draw" 2 spDraw) (c_versions : CalS P w K mg base 4 "_law_versions" 1 sp_versions) (c_letters : Cal P w K mg base 1 "_law_letters" 1 sp_letters) (c_alike : CalX P w K mg base 1 "_law_alike" 2 sp_alike) (c_hear : CalX P w K mg base 6 "_law_hear" 2 (sp_hear P w C_Mirror)) (c_unlike : CalX P w K mg base 2 "_law_unlike" 2 sp_unlike) (c_shown : CalX P w K mg base 2 "_law_shown" 2 sp_shown) (c_Mirror_init : CalC P w K mg base 1 "Mirror" C_Mirror 1 [] (sp_Mirror_init P w C_Mirror)) (c_Mirror_shown : CalM P w K mg base 1 C_Mirror ns_Mirror "shown" 1 (sp_Mirror_shown P w C_Mirror)) (c_Mirror_page : CalM P w K mg base 1 C_Mirror ns_Mirror "page" 2 (sp_Mirror_page P w C_Mirror)) : FnG P w K mg base 7 f fd ["_law_script"] (toSp K 1 (spLaw 63)) :=
  fnD F d_law fun X B Bt0 ds Gs Qd Rd _ h => ok_law B Bt0 T c_digits c_draw c_versions c_letters c_alike c_hear c_unlike c_shown c_Mirror_init c_Mirror_shown c_Mirror_page ds Gs Qd Rd h
theorem all_mk {P : Program} {w : World} {K : PySem.W.Frag} {h : Heap} {mg : Str → Option Value} {fa : Addr} (KX : K.In h) (G : h.Ns mainGlobals mg) (hfa : mg "law" = some (.ref fa))
    {C_PageError : Addr} {C_NotKept : Addr} {C_UnlikeLetters : Addr} {C_Mirror : Addr} {a_NO_VERSION : Addr} {odt_NO_VERSION : Option Addr} {nt_NO_VERSION : Nat} {slt_NO_VERSION : Array (Option Value)} {t_NO_VERSION_0 : Tok} {t_NO_VERSION_1 : Tok} {t_NO_VERSION_2 : Tok} {a_NO_VERSION_3 : Addr} {odt_NO_VERSION_3 : Option Addr} {nt_NO_VERSION_3 : Nat} {slt_NO_VERSION_3 : Array (Option Value)} {a_NO_VERSION_4 : Addr} {odt_NO_VERSION_4 : Option Addr} {nt_NO_VERSION_4 : Nat} {slt_NO_VERSION_4 : Array (Option Value)} {f_Mirror_init : Addr} {oc_Mirror_init : Value} {kV_Mirror_init : Value} {dc_Mirror_init : Value} {pm_Mirror_init : Value} {cd_Mirror_init : Value} {ct_Mirror_init : Value} {od_Mirror_init an_Mirror_init : Option Addr} {sl_Mirror_init : Array (Option Value)} {f_Mirror_check : Addr} {oc_Mirror_check : Value} {kV_Mirror_check : Value} {dc_Mirror_check : Value} {pm_Mirror_check : Value} {cd_Mirror_check : Value} {ct_Mirror_check : Value} {od_Mirror_check an_Mirror_check : Option Addr} {sl_Mirror_check : Array (Option Value)} {f_Mirror_hear_page : Addr} {oc_Mirror_hear_page : Value} {kV_Mirror_hear_page : Value} {dc_Mirror_hear_page : Value} {pm_Mirror_hear_page : Value} {cd_Mirror_hear_page : Value} {ct_Mirror_hear_page : Value} {od_Mirror_hear_page an_Mirror_hear_page : Option Addr} {sl_Mirror_hear_page : Array (Option Value)} {f_Mirror_hear_seal : Addr} {oc_Mirror_hear_seal : Value} {kV_Mirror_hear_seal : Value} {dc_Mirror_hear_seal : Value} {pm_Mirror_hear_seal : Value} {cd_Mirror_hear_seal : Value} {ct_Mirror_hear_seal : Value} {od_Mirror_hear_seal an_Mirror_hear_seal : Option Addr} {sl_Mirror_hear_seal : Array (Option Value)} {f_Mirror_complete : Addr} {oc_Mirror_complete : Value} {kV_Mirror_complete : Value} {dc_Mirror_complete : Value} {pm_Mirror_complete : Value} {cd_Mirror_complete : Value} {ct_Mirror_complete : Value} {od_Mirror_complete an_Mirror_complete : Option Addr} {sl_Mirror_complete : Array (Option Value)} {f_Mirror_hear : Addr} {oc_Mirror_hear : Value} {kV_Mirror_hear : Value} {dc_Mirror_hear : Value} {pm_Mirror_hear : Value} {cd_Mirror_hear : Value} {ct_Mirror_hear : Value} {od_Mirror_hear an_Mirror_hear : Option Addr} {sl_Mirror_hear : Array (Option Value)} {f_Mirror_shown : Addr} {oc_Mirror_shown : Value} {kV_Mirror_shown : Value} {dc_Mirror_shown : Value} {pm_Mirror_shown : Value} {cd_Mirror_shown : Value} {ct_Mirror_shown : Value} {od_Mirror_shown an_Mirror_shown : Option Addr} {sl_Mirror_shown : Array (Option Value)} {f_Mirror_page : Addr} {oc_Mirror_page : Value} {kV_Mirror_page : Value} {dc_Mirror_page : Value} {pm_Mirror_page : Value} {cd_Mirror_page : Value} {ct_Mirror_page : Value} {od_Mirror_page an_Mirror_page : Option Addr} {sl_Mirror_page : Array (Option Value)} {f_cell : Addr} {oc_cell : Value} {kV_cell : Value} {dc_cell : Value} {pm_cell : Value} {cd_cell : Value} {ct_cell : Value} {od_cell an_cell : Option Addr} {sl_cell : Array (Option Value)} {f_digits : Addr} {oc_digits : Value} {kV_digits : Value} {dc_digits : Value} {pm_digits : Value} {cd_digits : Value} {ct_digits : Value} {od_digits an_digits : Option Addr} {sl_digits : Array (Option Value)} {f_draw : Addr} {oc_draw : Value} {kV_draw : Value} {dc_draw : Value} {pm_draw : Value} {cd_draw : Value} {ct_draw : Value} {od_draw an_draw : Option Addr} {sl_draw : Array (Option Value)} {f_name : Addr} {oc_name : Value} {kV_name : Value} {dc_name : Value} {pm_name : Value} {cd_name : Value} {ct_name : Value} {od_name an_name : Option Addr} {sl_name : Array (Option Value)} {f_pages : Addr} {oc_pages : Value} {kV_pages : Value} {dc_pages : Value} {pm_pages : Value} {cd_pages : Value} {ct_pages : Value} {od_pages an_pages : Option Addr} {sl_pages : Array (Option Value)} {f_alike : Addr} {oc_alike : Value} {kV_alike : Value} {dc_alike : Value} {pm_alike : Value} {cd_alike : Value} {ct_alike : Value} {od_alike an_alike : Option Addr} {sl_alike : Array (Option Value)} {f_versions : Addr} {oc_versions : Value} {kV_versions : Value} {dc_versions : Value} {pm_versions : Value} {cd_versions : Value} {ct_versions : Value} {od_versions an_versions : Option Addr} {sl_versions : Array (Option Value)} {f_letters : Addr} {oc_letters : Value} {kV_letters : Value} {dc_letters : Value} {pm_letters : Value} {cd_letters : Value} {ct_letters : Value} {od_letters an_letters : Option Addr} {sl_letters : Array (Option Value)} {f_hear : Addr} {oc_hear : Value} {kV_hear : Value} {dc_hear : Value} {pm_hear : Value} {cd_hear : Value} {ct_hear : Value} {od_hear an_hear : Option Addr} {sl_hear : Array (Option Value)} {f_unlike : Addr} {oc_unlike : Value} {kV_unlike : Value} {dc_unlike : Value} {pm_unlike : Value} {cd_unlike : Value} {ct_unlike : Value} {od_unlike an_unlike : Option Addr} {sl_unlike : Array (Option Value)} {f_shown : Addr} {oc_shown : Value} {kV_shown : Value} {dc_shown : Value} {pm_shown : Value} {cd_shown : Value} {ct_shown : Value} {od_shown an_shown : Option Addr} {sl_shown : Array (Option Value)} {f_law : Addr} {oc_law : Value} {kV_law : Value} {dc_law : Value} {pm_law : Value} {cd_law : Value} {ct_law : Value} {od_law an_law : Option Addr} {sl_law : Array (Option Value)}
    (aC_PageError : PySem.W.nsIn K mainGlobals "PageError" = some (some (.ref C_PageError)))
    (aC_NotKept : PySem.W.nsIn K mainGlobals "NotKept" = some (some (.ref C_NotKept)))
    (aC_UnlikeLetters : PySem.W.nsIn K mainGlobals "UnlikeLetters" = some (some (.ref C_UnlikeLetters)))
    (aC_Mirror : PySem.W.nsIn K mainGlobals "Mirror" = some (some (.ref C_Mirror)))
    (pg_Mirror : PySem.W.plainGet K C_Mirror Str.empty = true)
    (hd_Mirror : PySem.W.hasDictIn K C_Mirror = true)
    (po_Mirror : PySem.W.plainOver K C_Mirror = true)
    (sa_Mirror : PySem.W.findIn K (.ref C_Mirror) "__setattr__" = some (some (.builtin "object.__setattr__")))
    (mk_Mirror : PySem.W.makesIn K C_Mirror = true)
    (kc_Mirror : PySem.W.keepIn K (.ref C_Mirror) = true)
    (nA_Mirror_pages : PySem.W.findIn K (.ref C_Mirror) "_pages" = some none)
    (nA_Mirror_seals : PySem.W.findIn K (.ref C_Mirror) "_seals" = some none)
    (nA_Mirror_best : PySem.W.findIn K (.ref C_Mirror) "_best" = some none)
    (nA_Mirror_shown : PySem.W.findIn K (.ref C_Mirror) "_shown" = some none)
    (kc_PageError : PySem.W.keepIn K (.ref C_PageError) = true)
    (sb_PageError : PySem.W.subIn K (.ref C_PageError) (.type "BaseException") = some true)
    (ty_PageError : PySem.W.typeIn K (.ref C_PageError) = some (.type "type"))
    (hd_PageError : PySem.W.hasDictIn K C_PageError = true)
    (u_PageError_PageError : PySem.W.subIn K (.ref C_PageError) (.ref C_PageError) = some true)
    (u_PageError_NotKept : PySem.W.subIn K (.ref C_PageError) (.ref C_NotKept) = some false)
    (u_PageError_UnlikeLetters : PySem.W.subIn K (.ref C_PageError) (.ref C_UnlikeLetters) = some false)
    (ga_PageError : PySem.W.findIn K (.ref C_PageError) "__getattribute__" = some (some (.builtin "BaseException.__getattribute__")))
    (gg_PageError : PySem.W.findIn K (.ref C_PageError) "__getattr__" = some none)
    (ck_PageError : PySem.W.findIn K (.ref C_PageError) "__class__" = some (some (.builtin "object.__class__")))
    (mo_PageError : PySem.W.mroIn K C_PageError (.type "object") = some true)
    (xq_PageError : PySem.W.excIn K C_PageError [.type "ValueError", .type "Exception", .type "BaseException", .type "object"] "ValueError.__new__" = true)
    (kc_NotKept : PySem.W.keepIn K (.ref C_NotKept) = true)
    (sb_NotKept : PySem.W.subIn K (.ref C_NotKept) (.type "BaseException") = some true)
    (ty_NotKept : PySem.W.typeIn K (.ref C_NotKept) = some (.type "type"))
    (hd_NotKept : PySem.W.hasDictIn K C_NotKept = true)
    (u_NotKept_PageError : PySem.W.subIn K (.ref C_NotKept) (.ref C_PageError) = some true)
    (u_NotKept_NotKept : PySem.W.subIn K (.ref C_NotKept) (.ref C_NotKept) = some true)
    (u_NotKept_UnlikeLetters : PySem.W.subIn K (.ref C_NotKept) (.ref C_UnlikeLetters) = some false)
    (ga_NotKept : PySem.W.findIn K (.ref C_NotKept) "__getattribute__" = some (some (.builtin "BaseException.__getattribute__")))
    (gg_NotKept : PySem.W.findIn K (.ref C_NotKept) "__getattr__" = some none)
    (ck_NotKept : PySem.W.findIn K (.ref C_NotKept) "__class__" = some (some (.builtin "object.__class__")))
    (mo_NotKept : PySem.W.mroIn K C_NotKept (.type "object") = some true)
    (xq_NotKept : PySem.W.excIn K C_NotKept [.type "ValueError", .type "Exception", .type "BaseException", .type "object"] "ValueError.__new__" = true)
    (kc_UnlikeLetters : PySem.W.keepIn K (.ref C_UnlikeLetters) = true)
    (sb_UnlikeLetters : PySem.W.subIn K (.ref C_UnlikeLetters) (.type "BaseException") = some true)
    (ty_UnlikeLetters : PySem.W.typeIn K (.ref C_UnlikeLetters) = some (.type "type"))
    (hd_UnlikeLetters : PySem.W.hasDictIn K C_UnlikeLetters = true)
    (u_UnlikeLetters_PageError : PySem.W.subIn K (.ref C_UnlikeLetters) (.ref C_PageError) = some true)
    (u_UnlikeLetters_NotKept : PySem.W.subIn K (.ref C_UnlikeLetters) (.ref C_NotKept) = some false)
    (u_UnlikeLetters_UnlikeLetters : PySem.W.subIn K (.ref C_UnlikeLetters) (.ref C_UnlikeLetters) = some true)
    (ga_UnlikeLetters : PySem.W.findIn K (.ref C_UnlikeLetters) "__getattribute__" = some (some (.builtin "BaseException.__getattribute__")))
    (gg_UnlikeLetters : PySem.W.findIn K (.ref C_UnlikeLetters) "__getattr__" = some none)
    (ck_UnlikeLetters : PySem.W.findIn K (.ref C_UnlikeLetters) "__class__" = some (some (.builtin "object.__class__")))
    (mo_UnlikeLetters : PySem.W.mroIn K C_UnlikeLetters (.type "object") = some true)
    (xq_UnlikeLetters : PySem.W.excIn K C_UnlikeLetters [.type "ValueError", .type "Exception", .type "BaseException", .type "object"] "ValueError.__new__" = true)
    (gsg : PySem.W.specialIn K (.builtin "object.__class__") "__get__" = some (some (.builtin "getset_descriptor.__get__")))
    (gst : PySem.W.takesIn K (.builtin "object.__class__") = some true)
    (m_any : PySem.W.nsIn K mainGlobals "any" = some none)
    (m_max : PySem.W.nsIn K mainGlobals "max" = some none)
    (m_tuple : PySem.W.nsIn K mainGlobals "tuple" = some none)
    (m_zip : PySem.W.nsIn K mainGlobals "zip" = some none)
    (m_sorted : PySem.W.nsIn K mainGlobals "sorted" = some none)
    (m_len : PySem.W.nsIn K mainGlobals "len" = some none)
    (m_range : PySem.W.nsIn K mainGlobals "range" = some none)
    (m_int : PySem.W.nsIn K mainGlobals "int" = some none)
    (m_repr : PySem.W.nsIn K mainGlobals "repr" = some none)
    (m_str : PySem.W.nsIn K mainGlobals "str" = some none)
    (m_isinstance : PySem.W.nsIn K mainGlobals "isinstance" = some none)
    (m_min : PySem.W.nsIn K mainGlobals "min" = some none)
    (g_NO_VERSION : PySem.W.nsIn K mainGlobals "NO_VERSION" = some (some (.ref a_NO_VERSION)))
    (lt_NO_VERSION : K.lookup a_NO_VERSION = some ⟨.type "tuple", odt_NO_VERSION, .seq #[.int 0 t_NO_VERSION_0, .int 0 t_NO_VERSION_1, .int 0 t_NO_VERSION_2, .ref a_NO_VERSION_3, .ref a_NO_VERSION_4] nt_NO_VERSION, slt_NO_VERSION⟩)
    (lt_NO_VERSION_3 : K.lookup a_NO_VERSION_3 = some ⟨.type "tuple", odt_NO_VERSION_3, .seq #[] nt_NO_VERSION_3, slt_NO_VERSION_3⟩)
    (lt_NO_VERSION_4 : K.lookup a_NO_VERSION_4 = some ⟨.type "tuple", odt_NO_VERSION_4, .seq #[] nt_NO_VERSION_4, slt_NO_VERSION_4⟩)
    (a_Mirror_init : PySem.W.findIn K (.ref C_Mirror) "__init__" = some (some (.ref f_Mirror_init)))
    (i_Mirror_init : PySem.W.isFn K (.ref f_Mirror_init) = true)
    (l_Mirror_init : K.lookup f_Mirror_init = some ⟨oc_Mirror_init, od_Mirror_init, .func (PySem.W.fnOf "__init__" "Mirror.__init__" (defArgs s_Mirror_init) (defBody s_Mirror_init) (defScope s_Mirror_init) .none kV_Mirror_init dc_Mirror_init pm_Mirror_init an_Mirror_init cd_Mirror_init ct_Mirror_init), sl_Mirror_init⟩)
    (c_Mirror_init : PySem.W.codeIn K cd_Mirror_init "Mirror.__init__" = true)
    (k_Mirror_init : PySem.W.keepIn K (.ref f_Mirror_init) = true)
    (a_Mirror_check : PySem.W.findIn K (.ref C_Mirror) "_check" = some (some (.ref f_Mirror_check)))
    (i_Mirror_check : PySem.W.isFn K (.ref f_Mirror_check) = true)
    (l_Mirror_check : K.lookup f_Mirror_check = some ⟨oc_Mirror_check, od_Mirror_check, .func (PySem.W.fnOf "_check" "Mirror._check" (defArgs s_Mirror_check) (defBody s_Mirror_check) (defScope s_Mirror_check) .none kV_Mirror_check dc_Mirror_check pm_Mirror_check an_Mirror_check cd_Mirror_check ct_Mirror_check), sl_Mirror_check⟩)
    (c_Mirror_check : PySem.W.codeIn K cd_Mirror_check "Mirror._check" = true)
    (k_Mirror_check : PySem.W.keepIn K (.ref f_Mirror_check) = true)
    (a_Mirror_hear_page : PySem.W.findIn K (.ref C_Mirror) "_hear_page" = some (some (.ref f_Mirror_hear_page)))
    (i_Mirror_hear_page : PySem.W.isFn K (.ref f_Mirror_hear_page) = true)
    (l_Mirror_hear_page : K.lookup f_Mirror_hear_page = some ⟨oc_Mirror_hear_page, od_Mirror_hear_page, .func (PySem.W.fnOf "_hear_page" "Mirror._hear_page" (defArgs s_Mirror_hear_page) (defBody s_Mirror_hear_page) (defScope s_Mirror_hear_page) .none kV_Mirror_hear_page dc_Mirror_hear_page pm_Mirror_hear_page an_Mirror_hear_page cd_Mirror_hear_page ct_Mirror_hear_page), sl_Mirror_hear_page⟩)
    (c_Mirror_hear_page : PySem.W.codeIn K cd_Mirror_hear_page "Mirror._hear_page" = true)
    (k_Mirror_hear_page : PySem.W.keepIn K (.ref f_Mirror_hear_page) = true)
    (a_Mirror_hear_seal : PySem.W.findIn K (.ref C_Mirror) "_hear_seal" = some (some (.ref f_Mirror_hear_seal)))
    (i_Mirror_hear_seal : PySem.W.isFn K (.ref f_Mirror_hear_seal) = true)
    (l_Mirror_hear_seal : K.lookup f_Mirror_hear_seal = some ⟨oc_Mirror_hear_seal, od_Mirror_hear_seal, .func (PySem.W.fnOf "_hear_seal" "Mirror._hear_seal" (defArgs s_Mirror_hear_seal) (defBody s_Mirror_hear_seal) (defScope s_Mirror_hear_seal) .none kV_Mirror_hear_seal dc_Mirror_hear_seal pm_Mirror_hear_seal an_Mirror_hear_seal cd_Mirror_hear_seal ct_Mirror_hear_seal), sl_Mirror_hear_seal⟩)
    (c_Mirror_hear_seal : PySem.W.codeIn K cd_Mirror_hear_seal "Mirror._hear_seal" = true)
    (k_Mirror_hear_seal : PySem.W.keepIn K (.ref f_Mirror_hear_seal) = true)
    (a_Mirror_complete : PySem.W.findIn K (.ref C_Mirror) "_complete" = some (some (.ref f_Mirror_complete)))
    (i_Mirror_complete : PySem.W.isFn K (.ref f_Mirror_complete) = true)
    (l_Mirror_complete : K.lookup f_Mirror_complete = some ⟨oc_Mirror_complete, od_Mirror_complete, .func (PySem.W.fnOf "_complete" "Mirror._complete" (defArgs s_Mirror_complete) (defBody s_Mirror_complete) (defScope s_Mirror_complete) .none kV_Mirror_complete dc_Mirror_complete pm_Mirror_complete an_Mirror_complete cd_Mirror_complete ct_Mirror_complete), sl_Mirror_complete⟩)
    (c_Mirror_complete : PySem.W.codeIn K cd_Mirror_complete "Mirror._complete" = true)
    (k_Mirror_complete : PySem.W.keepIn K (.ref f_Mirror_complete) = true)
    (a_Mirror_hear : PySem.W.findIn K (.ref C_Mirror) "hear" = some (some (.ref f_Mirror_hear)))
    (i_Mirror_hear : PySem.W.isFn K (.ref f_Mirror_hear) = true)
    (l_Mirror_hear : K.lookup f_Mirror_hear = some ⟨oc_Mirror_hear, od_Mirror_hear, .func (PySem.W.fnOf "hear" "Mirror.hear" (defArgs s_Mirror_hear) (defBody s_Mirror_hear) (defScope s_Mirror_hear) .none kV_Mirror_hear dc_Mirror_hear pm_Mirror_hear an_Mirror_hear cd_Mirror_hear ct_Mirror_hear), sl_Mirror_hear⟩)
    (c_Mirror_hear : PySem.W.codeIn K cd_Mirror_hear "Mirror.hear" = true)
    (k_Mirror_hear : PySem.W.keepIn K (.ref f_Mirror_hear) = true)
    (a_Mirror_shown : PySem.W.findIn K (.ref C_Mirror) "shown" = some (some (.ref f_Mirror_shown)))
    (i_Mirror_shown : PySem.W.isFn K (.ref f_Mirror_shown) = true)
    (l_Mirror_shown : K.lookup f_Mirror_shown = some ⟨oc_Mirror_shown, od_Mirror_shown, .func (PySem.W.fnOf "shown" "Mirror.shown" (defArgs s_Mirror_shown) (defBody s_Mirror_shown) (defScope s_Mirror_shown) .none kV_Mirror_shown dc_Mirror_shown pm_Mirror_shown an_Mirror_shown cd_Mirror_shown ct_Mirror_shown), sl_Mirror_shown⟩)
    (c_Mirror_shown : PySem.W.codeIn K cd_Mirror_shown "Mirror.shown" = true)
    (k_Mirror_shown : PySem.W.keepIn K (.ref f_Mirror_shown) = true)
    (a_Mirror_page : PySem.W.findIn K (.ref C_Mirror) "page" = some (some (.ref f_Mirror_page)))
    (i_Mirror_page : PySem.W.isFn K (.ref f_Mirror_page) = true)
    (l_Mirror_page : K.lookup f_Mirror_page = some ⟨oc_Mirror_page, od_Mirror_page, .func (PySem.W.fnOf "page" "Mirror.page" (defArgs s_Mirror_page) (defBody s_Mirror_page) (defScope s_Mirror_page) .none kV_Mirror_page dc_Mirror_page pm_Mirror_page an_Mirror_page cd_Mirror_page ct_Mirror_page), sl_Mirror_page⟩)
    (c_Mirror_page : PySem.W.codeIn K cd_Mirror_page "Mirror.page" = true)
    (k_Mirror_page : PySem.W.keepIn K (.ref f_Mirror_page) = true)
    (a_cell : PySem.W.nsIn K mainGlobals "_law_cell" = some (some (.ref f_cell)))
    (l_cell : K.lookup f_cell = some ⟨oc_cell, od_cell, .func (PySem.W.fnOf "_law_cell" "_law_cell" (defArgs s_cell) (defBody s_cell) (defScope s_cell) .none kV_cell dc_cell pm_cell an_cell cd_cell ct_cell), sl_cell⟩)
    (c_cell : PySem.W.codeIn K cd_cell "_law_cell" = true)
    (k_cell : PySem.W.keepIn K (.ref f_cell) = true)
    (a_digits : PySem.W.nsIn K mainGlobals "_law_digits" = some (some (.ref f_digits)))
    (l_digits : K.lookup f_digits = some ⟨oc_digits, od_digits, .func (PySem.W.fnOf "_law_digits" "_law_digits" (defArgs s_digits) (defBody s_digits) (defScope s_digits) .none kV_digits dc_digits pm_digits an_digits cd_digits ct_digits), sl_digits⟩)
    (c_digits : PySem.W.codeIn K cd_digits "_law_digits" = true)
    (k_digits : PySem.W.keepIn K (.ref f_digits) = true)
    (a_draw : PySem.W.nsIn K mainGlobals "_law_draw" = some (some (.ref f_draw)))
    (l_draw : K.lookup f_draw = some ⟨oc_draw, od_draw, .func (PySem.W.fnOf "_law_draw" "_law_draw" (defArgs s_draw) (defBody s_draw) (defScope s_draw) .none kV_draw dc_draw pm_draw an_draw cd_draw ct_draw), sl_draw⟩)
    (c_draw : PySem.W.codeIn K cd_draw "_law_draw" = true)
    (k_draw : PySem.W.keepIn K (.ref f_draw) = true)
    (a_name : PySem.W.nsIn K mainGlobals "_law_name" = some (some (.ref f_name)))
    (l_name : K.lookup f_name = some ⟨oc_name, od_name, .func (PySem.W.fnOf "_law_name" "_law_name" (defArgs s_name) (defBody s_name) (defScope s_name) .none kV_name dc_name pm_name an_name cd_name ct_name), sl_name⟩)
    (c_name : PySem.W.codeIn K cd_name "_law_name" = true)
    (k_name : PySem.W.keepIn K (.ref f_name) = true)
    (a_pages : PySem.W.nsIn K mainGlobals "_law_pages" = some (some (.ref f_pages)))
    (l_pages : K.lookup f_pages = some ⟨oc_pages, od_pages, .func (PySem.W.fnOf "_law_pages" "_law_pages" (defArgs s_pages) (defBody s_pages) (defScope s_pages) .none kV_pages dc_pages pm_pages an_pages cd_pages ct_pages), sl_pages⟩)
    (c_pages : PySem.W.codeIn K cd_pages "_law_pages" = true)
    (k_pages : PySem.W.keepIn K (.ref f_pages) = true)
    (a_alike : PySem.W.nsIn K mainGlobals "_law_alike" = some (some (.ref f_alike)))
    (l_alike : K.lookup f_alike = some ⟨oc_alike, od_alike, .func (PySem.W.fnOf "_law_alike" "_law_alike" (defArgs s_alike) (defBody s_alike) (defScope s_alike) .none kV_alike dc_alike pm_alike an_alike cd_alike ct_alike), sl_alike⟩)
    (c_alike : PySem.W.codeIn K cd_alike "_law_alike" = true)
    (k_alike : PySem.W.keepIn K (.ref f_alike) = true)
    (a_versions : PySem.W.nsIn K mainGlobals "_law_versions" = some (some (.ref f_versions)))
    (l_versions : K.lookup f_versions = some ⟨oc_versions, od_versions, .func (PySem.W.fnOf "_law_versions" "_law_versions" (defArgs s_versions) (defBody s_versions) (defScope s_versions) .none kV_versions dc_versions pm_versions an_versions cd_versions ct_versions), sl_versions⟩)
    (c_versions : PySem.W.codeIn K cd_versions "_law_versions" = true)
    (k_versions : PySem.W.keepIn K (.ref f_versions) = true)
    (a_letters : PySem.W.nsIn K mainGlobals "_law_letters" = some (some (.ref f_letters)))
    (l_letters : K.lookup f_letters = some ⟨oc_letters, od_letters, .func (PySem.W.fnOf "_law_letters" "_law_letters" (defArgs s_letters) (defBody s_letters) (defScope s_letters) .none kV_letters dc_letters pm_letters an_letters cd_letters ct_letters), sl_letters⟩)
    (c_letters : PySem.W.codeIn K cd_letters "_law_letters" = true)
    (k_letters : PySem.W.keepIn K (.ref f_letters) = true)
    (a_hear : PySem.W.nsIn K mainGlobals "_law_hear" = some (some (.ref f_hear)))
    (l_hear : K.lookup f_hear = some ⟨oc_hear, od_hear, .func (PySem.W.fnOf "_law_hear" "_law_hear" (defArgs s_hear) (defBody s_hear) (defScope s_hear) .none kV_hear dc_hear pm_hear an_hear cd_hear ct_hear), sl_hear⟩)
    (c_hear : PySem.W.codeIn K cd_hear "_law_hear" = true)
    (k_hear : PySem.W.keepIn K (.ref f_hear) = true)
    (a_unlike : PySem.W.nsIn K mainGlobals "_law_unlike" = some (some (.ref f_unlike)))
    (l_unlike : K.lookup f_unlike = some ⟨oc_unlike, od_unlike, .func (PySem.W.fnOf "_law_unlike" "_law_unlike" (defArgs s_unlike) (defBody s_unlike) (defScope s_unlike) .none kV_unlike dc_unlike pm_unlike an_unlike cd_unlike ct_unlike), sl_unlike⟩)
    (c_unlike : PySem.W.codeIn K cd_unlike "_law_unlike" = true)
    (k_unlike : PySem.W.keepIn K (.ref f_unlike) = true)
    (a_shown : PySem.W.nsIn K mainGlobals "_law_shown" = some (some (.ref f_shown)))
    (l_shown : K.lookup f_shown = some ⟨oc_shown, od_shown, .func (PySem.W.fnOf "_law_shown" "_law_shown" (defArgs s_shown) (defBody s_shown) (defScope s_shown) .none kV_shown dc_shown pm_shown an_shown cd_shown ct_shown), sl_shown⟩)
    (c_shown : PySem.W.codeIn K cd_shown "_law_shown" = true)
    (k_shown : PySem.W.keepIn K (.ref f_shown) = true)
    (a_law : PySem.W.nsIn K mainGlobals "law" = some (some (.ref f_law)))
    (l_law : K.lookup f_law = some ⟨oc_law, od_law, .func (PySem.W.fnOf "law" "law" (defArgs s_law) (defBody s_law) (defScope s_law) .none kV_law dc_law pm_law an_law cd_law ct_law), sl_law⟩)
    (c_law : PySem.W.codeIn K cd_law "law" = true)
    (k_law : PySem.W.keepIn K (.ref f_law) = true) :
    ∃ fd : FuncData, (∀ (s : Shared) (v : Value), BindsTo s fd ⟨[v], []⟩ [("_law_script", v)]) ∧ ∀ base : Heap, K.In base → base.Ns mainGlobals mg → FnG P w K mg base 7 fa fd ["_law_script"] (toSp K 1 (spLaw 63)) := by
  cases hfa.symm.trans (PySem.W.mg_of KX G a_law)
  refine ⟨PySem.W.fnOf "law" "law" (defArgs s_law) (defBody s_law) (defScope s_law) .none kV_law dc_law pm_law an_law cd_law ct_law, fun s v => .of_eq rfl, fun base _ _ => ?_⟩
  have T : Txt P w K mg base C_PageError C_NotKept C_UnlikeLetters C_Mirror := ⟨trivial, ⟨⟨pg_Mirror, hd_Mirror, po_Mirror, sa_Mirror⟩, by decide, by intro f hf; simp only [ns_Mirror, List.mem_cons, List.not_mem_nil, or_false] at hf; rcases hf with rfl | rfl | rfl | rfl <;> assumption⟩, ⟨PySem.W.mg_of KX G aC_PageError, xq_PageError, kc_PageError, sb_PageError, ty_PageError⟩, PySem.W.mg_of KX G aC_PageError, ⟨PySem.W.mg_of KX G aC_NotKept, xq_NotKept, kc_NotKept, sb_NotKept, ty_NotKept⟩, PySem.W.mg_of KX G aC_NotKept, ⟨PySem.W.mg_of KX G aC_UnlikeLetters, xq_UnlikeLetters, kc_UnlikeLetters, sb_UnlikeLetters, ty_UnlikeLetters⟩, PySem.W.mg_of KX G aC_UnlikeLetters, exm_of sb_PageError hd_PageError ty_PageError u_PageError_PageError, exm_of sb_NotKept hd_NotKept ty_NotKept u_PageError_NotKept, exm_of sb_UnlikeLetters hd_UnlikeLetters ty_UnlikeLetters u_PageError_UnlikeLetters, exm_of sb_PageError hd_PageError ty_PageError u_NotKept_PageError, exm_of sb_NotKept hd_NotKept ty_NotKept u_NotKept_NotKept, exm_of sb_UnlikeLetters hd_UnlikeLetters ty_UnlikeLetters u_NotKept_UnlikeLetters, exm_of sb_PageError hd_PageError ty_PageError u_UnlikeLetters_PageError, exm_of sb_NotKept hd_NotKept ty_NotKept u_UnlikeLetters_NotKept, exm_of sb_UnlikeLetters hd_UnlikeLetters ty_UnlikeLetters u_UnlikeLetters_UnlikeLetters, ⟨ga_PageError, gg_PageError, sb_PageError, hd_PageError, ck_PageError, gsg, gst, mo_PageError⟩, kit_of hd_PageError ty_PageError u_PageError_PageError u_PageError_PageError, kit_of hd_NotKept ty_NotKept u_NotKept_NotKept u_PageError_NotKept, kit_of hd_UnlikeLetters ty_UnlikeLetters u_UnlikeLetters_UnlikeLetters u_PageError_UnlikeLetters, ⟨ga_NotKept, gg_NotKept, sb_NotKept, hd_NotKept, ck_NotKept, gsg, gst, mo_NotKept⟩, kit_of hd_PageError ty_PageError u_PageError_PageError u_NotKept_PageError, kit_of hd_NotKept ty_NotKept u_NotKept_NotKept u_NotKept_NotKept, kit_of hd_UnlikeLetters ty_UnlikeLetters u_UnlikeLetters_UnlikeLetters u_NotKept_UnlikeLetters, ⟨ga_UnlikeLetters, gg_UnlikeLetters, sb_UnlikeLetters, hd_UnlikeLetters, ck_UnlikeLetters, gsg, gst, mo_UnlikeLetters⟩, kit_of hd_PageError ty_PageError u_PageError_PageError u_UnlikeLetters_PageError, kit_of hd_NotKept ty_NotKept u_NotKept_NotKept u_UnlikeLetters_NotKept, kit_of hd_UnlikeLetters ty_UnlikeLetters u_UnlikeLetters_UnlikeLetters u_UnlikeLetters_UnlikeLetters, PySem.W.mg_none_of KX G m_any, PySem.W.mg_none_of KX G m_max, PySem.W.mg_none_of KX G m_tuple, PySem.W.mg_none_of KX G m_zip, PySem.W.mg_none_of KX G m_sorted, PySem.W.mg_none_of KX G m_len, PySem.W.mg_none_of KX G m_range, PySem.W.mg_none_of KX G m_int, PySem.W.mg_none_of KX G m_repr, PySem.W.mg_none_of KX G m_str, PySem.W.mg_none_of KX G m_isinstance, PySem.W.mg_none_of KX G m_min, ⟨.ref a_NO_VERSION, .ref a_NO_VERSION, PySem.W.mg_of KX G g_NO_VERSION, rfl, fun _ _ => ⟨a_NO_VERSION, [.int 0, .int 0, .int 0, .ref a_NO_VERSION_3, .ref a_NO_VERSION_4], rfl, .inr ⟨_, _, _, lt_NO_VERSION, rfl, rfl, (by rw [sizeLine_eq]; exact Nat.le_of_ble_eq_true (by rfl)), (.cons (⟨_, rfl⟩) (.cons (⟨_, rfl⟩) (.cons (⟨_, rfl⟩) (.cons (rfl) (.cons (rfl) (.nil))))))⟩, ⟨_, _, rfl, rfl, ⟨_, _, rfl, rfl, ⟨_, _, rfl, rfl, ⟨_, _, rfl, ⟨a_NO_VERSION_3, [], rfl, .inr ⟨_, _, _, lt_NO_VERSION_3, rfl, rfl, (by rw [sizeLine_eq]; exact Nat.le_of_ble_eq_true (by rfl)), (.nil)⟩, rfl⟩, ⟨_, _, rfl, ⟨a_NO_VERSION_4, [], rfl, .inr ⟨_, _, _, lt_NO_VERSION_4, rfl, rfl, (by rw [sizeLine_eq]; exact Nat.le_of_ble_eq_true (by rfl)), (.nil)⟩, rfl⟩, rfl⟩⟩⟩⟩⟩⟩⟩⟩
  have F_Mirror_init := fun_mk (st := s_Mirror_init) l_Mirror_init c_Mirror_init k_Mirror_init
  have b_Mirror_init := F_Mirror_init.binds (ps := ["self"]) fun _ _ _ _ _ _ us hl => match us, hl with | [_], _ => rfl
  have F_Mirror_check := fun_mk (st := s_Mirror_check) l_Mirror_check c_Mirror_check k_Mirror_check
  have b_Mirror_check := F_Mirror_check.binds (ps := ["self", "known", "told"]) fun _ _ _ _ _ _ us hl => match us, hl with | [_, _, _], _ => rfl
  have F_Mirror_hear_page := fun_mk (st := s_Mirror_hear_page) l_Mirror_hear_page c_Mirror_hear_page k_Mirror_hear_page
  have b_Mirror_hear_page := F_Mirror_hear_page.binds (ps := ["self", "number", "name", "text"]) fun _ _ _ _ _ _ us hl => match us, hl with | [_, _, _, _], _ => rfl
  have F_Mirror_hear_seal := fun_mk (st := s_Mirror_hear_seal) l_Mirror_hear_seal c_Mirror_hear_seal k_Mirror_hear_seal
  have b_Mirror_hear_seal := F_Mirror_hear_seal.binds (ps := ["self", "number", "count", "time", "rest"]) fun _ _ _ _ _ _ us hl => match us, hl with | [_, _, _, _, _], _ => rfl
  have F_Mirror_complete := fun_mk (st := s_Mirror_complete) l_Mirror_complete c_Mirror_complete k_Mirror_complete
  have b_Mirror_complete := F_Mirror_complete.binds (ps := ["self", "number"]) fun _ _ _ _ _ _ us hl => match us, hl with | [_, _], _ => rfl
  have F_Mirror_hear := fun_mk (st := s_Mirror_hear) l_Mirror_hear c_Mirror_hear k_Mirror_hear
  have b_Mirror_hear := F_Mirror_hear.binds (ps := ["self", "letter"]) fun _ _ _ _ _ _ us hl => match us, hl with | [_, _], _ => rfl
  have F_Mirror_shown := fun_mk (st := s_Mirror_shown) l_Mirror_shown c_Mirror_shown k_Mirror_shown
  have b_Mirror_shown := F_Mirror_shown.binds (ps := ["self"]) fun _ _ _ _ _ _ us hl => match us, hl with | [_], _ => rfl
  have F_Mirror_page := fun_mk (st := s_Mirror_page) l_Mirror_page c_Mirror_page k_Mirror_page
  have b_Mirror_page := F_Mirror_page.binds (ps := ["self", "name"]) fun _ _ _ _ _ _ us hl => match us, hl with | [_, _], _ => rfl
  have F_cell := fun_mk (st := s_cell) l_cell c_cell k_cell
  have b_cell := F_cell.binds (ps := ["_law_script", "_law_k"]) fun _ _ _ _ _ _ us hl => match us, hl with | [_, _], _ => rfl
  have F_digits := fun_mk (st := s_digits) l_digits c_digits k_digits
  have b_digits := F_digits.binds (ps := ["_law_script", "_law_first", "_law_last"]) fun _ _ _ _ _ _ us hl => match us, hl with | [_, _, _], _ => rfl
  have F_draw := fun_mk (st := s_draw) l_draw c_draw k_draw
  have b_draw := F_draw.binds (ps := ["_law_box", "_law_many"]) fun _ _ _ _ _ _ us hl => match us, hl with | [_, _], _ => rfl
  have F_name := fun_mk (st := s_name) l_name c_name k_name
  have b_name := F_name.binds (ps := ["_law_box"]) fun _ _ _ _ _ _ us hl => match us, hl with | [_], _ => rfl
  have F_pages := fun_mk (st := s_pages) l_pages c_pages k_pages
  have b_pages := F_pages.binds (ps := ["_law_box"]) fun _ _ _ _ _ _ us hl => match us, hl with | [_], _ => rfl
  have F_alike := fun_mk (st := s_alike) l_alike c_alike k_alike
  have b_alike := F_alike.binds (ps := ["_law_one", "_law_two"]) fun _ _ _ _ _ _ us hl => match us, hl with | [_, _], _ => rfl
  have F_versions := fun_mk (st := s_versions) l_versions c_versions k_versions
  have b_versions := F_versions.binds (ps := ["_law_box"]) fun _ _ _ _ _ _ us hl => match us, hl with | [_], _ => rfl
  have F_letters := fun_mk (st := s_letters) l_letters c_letters k_letters
  have b_letters := F_letters.binds (ps := ["_law_version"]) fun _ _ _ _ _ _ us hl => match us, hl with | [_], _ => rfl
  have F_hear := fun_mk (st := s_hear) l_hear c_hear k_hear
  have b_hear := F_hear.binds (ps := ["_law_mirror", "_law_letter"]) fun _ _ _ _ _ _ us hl => match us, hl with | [_, _], _ => rfl
  have F_unlike := fun_mk (st := s_unlike) l_unlike c_unlike k_unlike
  have b_unlike := F_unlike.binds (ps := ["_law_box", "_law_letter"]) fun _ _ _ _ _ _ us hl => match us, hl with | [_, _], _ => rfl
  have F_shown := fun_mk (st := s_shown) l_shown c_shown k_shown
  have b_shown := F_shown.binds (ps := ["_law_heard", "_law_versions_here"]) fun _ _ _ _ _ _ us hl => match us, hl with | [_, _], _ => rfl
  have F_law := fun_mk (st := s_law) l_law c_law k_law
  have b_law := F_law.binds (ps := ["_law_script"]) fun _ _ _ _ _ _ us hl => match us, hl with | [_], _ => rfl
  have e_cell : Cal P w K mg base 1 "_law_cell" 2 spCell := ⟨_, _, _, fn_cell F_cell T , PySem.W.mg_of KX G a_cell, k_cell, b_cell⟩
  have e_digits : Cal P w K mg base 2 "_law_digits" 3 spDigits := ⟨_, _, _, fn_digits F_digits T e_cell, PySem.W.mg_of KX G a_digits, k_digits, b_digits⟩
  have e_draw : Cal P w K mg base 1 "_law_draw" 2 spDraw := ⟨_, _, _, fn_draw F_draw T , PySem.W.mg_of KX G a_draw, k_draw, b_draw⟩
  have e_Mirror_init : CalC P w K mg base 1 "Mirror" C_Mirror 1 [] (sp_Mirror_init P w C_Mirror) := ⟨_, _, _, [], [], fn_Mirror_init F_Mirror_init T , ⟨mk_Mirror, a_Mirror_init, i_Mirror_init, kc_Mirror⟩, PySem.W.mg_of KX G aC_Mirror, b_Mirror_init, .nil, fun _ _ => rfl⟩
  have e_Mirror_check : CalM P w K mg base 3 C_Mirror ns_Mirror "_check" 3 (sp_Mirror_check C_UnlikeLetters C_Mirror) := ⟨_, _, _, fn_Mirror_check F_Mirror_check T , ⟨a_Mirror_check, i_Mirror_check, k_Mirror_check⟩, b_Mirror_check, by decide⟩
  have e_Mirror_hear_page : CalM P w K mg base 4 C_Mirror ns_Mirror "_hear_page" 4 (sp_Mirror_hear_page P w C_UnlikeLetters C_Mirror) := ⟨_, _, _, fn_Mirror_hear_page F_Mirror_hear_page T e_Mirror_check, ⟨a_Mirror_hear_page, i_Mirror_hear_page, k_Mirror_hear_page⟩, b_Mirror_hear_page, by decide⟩
  have e_Mirror_hear_seal : CalM P w K mg base 4 C_Mirror ns_Mirror "_hear_seal" 5 (sp_Mirror_hear_seal P w C_UnlikeLetters C_Mirror) := ⟨_, _, _, fn_Mirror_hear_seal F_Mirror_hear_seal T e_Mirror_check, ⟨a_Mirror_hear_seal, i_Mirror_hear_seal, k_Mirror_hear_seal⟩, b_Mirror_hear_seal, by decide⟩
  have e_Mirror_complete : CalM P w K mg base 1 C_Mirror ns_Mirror "_complete" 2 (sp_Mirror_complete P w C_Mirror) := ⟨_, _, _, fn_Mirror_complete F_Mirror_complete T , ⟨a_Mirror_complete, i_Mirror_complete, k_Mirror_complete⟩, b_Mirror_complete, by decide⟩
  have e_Mirror_hear : CalM P w K mg base 5 C_Mirror ns_Mirror "hear" 2 (sp_Mirror_hear P w C_UnlikeLetters C_Mirror) := ⟨_, _, _, fn_Mirror_hear F_Mirror_hear T e_Mirror_hear_page e_Mirror_hear_seal e_Mirror_complete, ⟨a_Mirror_hear, i_Mirror_hear, k_Mirror_hear⟩, b_Mirror_hear, by decide⟩
  have e_Mirror_shown : CalM P w K mg base 1 C_Mirror ns_Mirror "shown" 1 (sp_Mirror_shown P w C_Mirror) := ⟨_, _, _, fn_Mirror_shown F_Mirror_shown T , ⟨a_Mirror_shown, i_Mirror_shown, k_Mirror_shown⟩, b_Mirror_shown, by decide⟩
  have e_Mirror_page : CalM P w K mg base 1 C_Mirror ns_Mirror "page" 2 (sp_Mirror_page P w C_Mirror) := ⟨_, _, _, fn_Mirror_page F_Mirror_page T , ⟨a_Mirror_page, i_Mirror_page, k_Mirror_page⟩, b_Mirror_page, by decide⟩
  have e_name : CalS P w K mg base 2 "_law_name" 1 sp_name := ⟨_, _, _, fn_name F_name T e_draw, PySem.W.mg_of KX G a_name, k_name, b_name⟩
  have e_pages : CalS P w K mg base 3 "_law_pages" 1 sp_pages := ⟨_, _, _, fn_pages F_pages T e_draw e_name, PySem.W.mg_of KX G a_pages, k_pages, b_pages⟩
  have e_alike : CalX P w K mg base 1 "_law_alike" 2 sp_alike := ⟨_, _, _, fn_alike F_alike T , PySem.W.mg_of KX G a_alike, k_alike, b_alike⟩
  have e_versions : CalS P w K mg base 4 "_law_versions" 1 sp_versions := ⟨_, _, _, fn_versions F_versions T e_draw e_pages, PySem.W.mg_of KX G a_versions, k_versions, b_versions⟩
  have e_letters : Cal P w K mg base 1 "_law_letters" 1 sp_letters := ⟨_, _, _, fn_letters F_letters T , PySem.W.mg_of KX G a_letters, k_letters, b_letters⟩
  have e_hear : CalX P w K mg base 6 "_law_hear" 2 (sp_hear P w C_Mirror) := ⟨_, _, _, fn_hear F_hear T e_Mirror_hear, PySem.W.mg_of KX G a_hear, k_hear, b_hear⟩
  have e_unlike : CalX P w K mg base 2 "_law_unlike" 2 sp_unlike := ⟨_, _, _, fn_unlike F_unlike T e_draw, PySem.W.mg_of KX G a_unlike, k_unlike, b_unlike⟩
  have e_shown : CalX P w K mg base 2 "_law_shown" 2 sp_shown := ⟨_, _, _, fn_shown F_shown T e_letters, PySem.W.mg_of KX G a_shown, k_shown, b_shown⟩
  exact fn_law F_law T e_digits e_draw e_versions e_letters e_alike e_hear e_unlike e_shown e_Mirror_init e_Mirror_shown e_Mirror_page
theorem walk {l : PySem.W.OpenLaw} {q : Program} {loose : List Str} {XP : (Str → Option Value) → Heap → Prop} {YP : World → Heap → Prop} {d : DefRec} {K : Params → PySem.W.Frag} (hn : l.most = some 63) (hdf : d.params.defaults = [])
    (hY : ∀ (w : World) (h : Heap), YP w h → (K w.params).In h)
    (F : ∀ (w : World) (mg : Str → Option Value) (fa : Addr) (h : Heap), (K w.params).In h → h.Ns mainGlobals mg → mg d.name = some (.ref fa) →
      ∃ fd : FuncData, (∀ (s : Shared) (u : Value), BindsTo s fd ⟨[u], []⟩ [("_law_script", u)]) ∧ ∀ base : Heap, (K w.params).In base → base.Ns mainGlobals mg → FnG l.prog w (K w.params) mg base 7 fa fd ["_law_script"] (toSp (K w.params) 1 (spLaw 63))) :
    PySem.W.WalkO q loose XP YP l.row.toRowW d [] (fun f vs => PySem.call f vs) := walk_law (n := 63) (k := 7) hn (by decide) hdf ⟨rfl, by decide, by decide⟩ hY F
end
end K61
open PySem PySem.W PyProof.Rows
set_option maxRecDepth 100000 in
set_option maxHeartbeats 0 in
theorem PySem.Challenge.cw_pagesatonce_k61_mirrors_show_complete_ve_holds : PySem.Challenge.rw_pagesatonce_k61_mirrors_show_complete_ve.Holds := by
  w_on; o_law; k_head; (case hw => w_witness2)
  k_fill
  refine K61.walk (l := PySem.Challenge.rw_pagesatonce_k61_mirrors_show_complete_ve) rfl rfl (fun w h Y => PySem.W.kIn_of Y) ?F
  case F =>
    intro w mg fa h KX G hmg
    refine' K61.all_mk KX G hmg ?aC_PageError ?aC_NotKept ?aC_UnlikeLetters ?aC_Mirror ?pg_Mirror ?hd_Mirror ?po_Mirror ?sa_Mirror ?mk_Mirror ?kc_Mirror ?nA_Mirror_pages ?nA_Mirror_seals ?nA_Mirror_best ?nA_Mirror_shown ?kc_PageError ?sb_PageError ?ty_PageError ?hd_PageError ?u_PageError_PageError ?u_PageError_NotKept ?u_PageError_UnlikeLetters ?ga_PageError ?gg_PageError ?ck_PageError ?mo_PageError ?xq_PageError ?kc_NotKept ?sb_NotKept ?ty_NotKept ?hd_NotKept ?u_NotKept_PageError ?u_NotKept_NotKept ?u_NotKept_UnlikeLetters ?ga_NotKept ?gg_NotKept ?ck_NotKept ?mo_NotKept ?xq_NotKept ?kc_UnlikeLetters ?sb_UnlikeLetters ?ty_UnlikeLetters ?hd_UnlikeLetters ?u_UnlikeLetters_PageError ?u_UnlikeLetters_NotKept ?u_UnlikeLetters_UnlikeLetters ?ga_UnlikeLetters ?gg_UnlikeLetters ?ck_UnlikeLetters ?mo_UnlikeLetters ?xq_UnlikeLetters ?gsg ?gst ?m_any ?m_max ?m_tuple ?m_zip ?m_sorted ?m_len ?m_range ?m_int ?m_repr ?m_str ?m_isinstance ?m_min ?g_NO_VERSION ?lt_NO_VERSION ?lt_NO_VERSION_3 ?lt_NO_VERSION_4 ?a_Mirror_init ?i_Mirror_init ?l_Mirror_init ?c_Mirror_init ?k_Mirror_init ?a_Mirror_check ?i_Mirror_check ?l_Mirror_check ?c_Mirror_check ?k_Mirror_check ?a_Mirror_hear_page ?i_Mirror_hear_page ?l_Mirror_hear_page ?c_Mirror_hear_page ?k_Mirror_hear_page ?a_Mirror_hear_seal ?i_Mirror_hear_seal ?l_Mirror_hear_seal ?c_Mirror_hear_seal ?k_Mirror_hear_seal ?a_Mirror_complete ?i_Mirror_complete ?l_Mirror_complete ?c_Mirror_complete ?k_Mirror_complete ?a_Mirror_hear ?i_Mirror_hear ?l_Mirror_hear ?c_Mirror_hear ?k_Mirror_hear ?a_Mirror_shown ?i_Mirror_shown ?l_Mirror_shown ?c_Mirror_shown ?k_Mirror_shown ?a_Mirror_page ?i_Mirror_page ?l_Mirror_page ?c_Mirror_page ?k_Mirror_page ?a_cell ?l_cell ?c_cell ?k_cell ?a_digits ?l_digits ?c_digits ?k_digits ?a_draw ?l_draw ?c_draw ?k_draw ?a_name ?l_name ?c_name ?k_name ?a_pages ?l_pages ?c_pages ?k_pages ?a_alike ?l_alike ?c_alike ?k_alike ?a_versions ?l_versions ?c_versions ?k_versions ?a_letters ?l_letters ?c_letters ?k_letters ?a_hear ?l_hear ?c_hear ?k_hear ?a_unlike ?l_unlike ?c_unlike ?k_unlike ?a_shown ?l_shown ?c_shown ?k_shown ?a_law ?l_law ?c_law ?k_law
    (case aC_PageError => k_is); (case aC_NotKept => k_is); (case aC_UnlikeLetters => k_is); (case aC_Mirror => k_is); (case pg_Mirror => k_is); (case hd_Mirror => k_is)
    (case po_Mirror => k_is); (case sa_Mirror => k_is); (case mk_Mirror => k_is); (case kc_Mirror => k_is); (case nA_Mirror_pages => k_is); (case nA_Mirror_seals => k_is)
    (case nA_Mirror_best => k_is); (case nA_Mirror_shown => k_is); (case kc_PageError => k_is); (case sb_PageError => k_is); (case ty_PageError => k_is); (case hd_PageError => k_is)
    (case u_PageError_PageError => first | k_is | rfl); (case u_PageError_NotKept => first | k_is | rfl); (case u_PageError_UnlikeLetters => first | k_is | rfl); (case ga_PageError => k_is); (case gg_PageError => k_is); (case ck_PageError => k_is)
    (case mo_PageError => k_is); (case xq_PageError => k_exc); (case kc_NotKept => k_is); (case sb_NotKept => k_is); (case ty_NotKept => k_is); (case hd_NotKept => k_is)
    (case u_NotKept_PageError => first | k_is | rfl); (case u_NotKept_NotKept => first | k_is | rfl); (case u_NotKept_UnlikeLetters => first | k_is | rfl); (case ga_NotKept => k_is); (case gg_NotKept => k_is); (case ck_NotKept => k_is)
    (case mo_NotKept => k_is); (case xq_NotKept => k_exc); (case kc_UnlikeLetters => k_is); (case sb_UnlikeLetters => k_is); (case ty_UnlikeLetters => k_is); (case hd_UnlikeLetters => k_is)
    (case u_UnlikeLetters_PageError => first | k_is | rfl); (case u_UnlikeLetters_NotKept => first | k_is | rfl); (case u_UnlikeLetters_UnlikeLetters => first | k_is | rfl); (case ga_UnlikeLetters => k_is); (case gg_UnlikeLetters => k_is); (case ck_UnlikeLetters => k_is)
    (case mo_UnlikeLetters => k_is); (case xq_UnlikeLetters => k_exc); (case gsg => k_is); (case gst => k_is); (case m_any => k_is); (case m_max => k_is)
    (case m_tuple => k_is); (case m_zip => k_is); (case m_sorted => k_is); (case m_len => k_is); (case m_range => k_is); (case m_int => k_is)
    (case m_repr => k_is); (case m_str => k_is); (case m_isinstance => k_is); (case m_min => k_is); (case g_NO_VERSION => k_is); (case lt_NO_VERSION => k_is)
    (case lt_NO_VERSION_3 => k_is); (case lt_NO_VERSION_4 => k_is); (case a_Mirror_init => k_is); (case i_Mirror_init => k_is); (case l_Mirror_init => k_is); (case c_Mirror_init => k_is)
    (case k_Mirror_init => k_is); (case a_Mirror_check => k_is); (case i_Mirror_check => k_is); (case l_Mirror_check => k_is); (case c_Mirror_check => k_is); (case k_Mirror_check => k_is)
    (case a_Mirror_hear_page => k_is); (case i_Mirror_hear_page => k_is); (case l_Mirror_hear_page => k_is); (case c_Mirror_hear_page => k_is); (case k_Mirror_hear_page => k_is); (case a_Mirror_hear_seal => k_is)
    (case i_Mirror_hear_seal => k_is); (case l_Mirror_hear_seal => k_is); (case c_Mirror_hear_seal => k_is); (case k_Mirror_hear_seal => k_is); (case a_Mirror_complete => k_is); (case i_Mirror_complete => k_is)
    (case l_Mirror_complete => k_is); (case c_Mirror_complete => k_is); (case k_Mirror_complete => k_is); (case a_Mirror_hear => k_is); (case i_Mirror_hear => k_is); (case l_Mirror_hear => k_is)
    (case c_Mirror_hear => k_is); (case k_Mirror_hear => k_is); (case a_Mirror_shown => k_is); (case i_Mirror_shown => k_is); (case l_Mirror_shown => k_is); (case c_Mirror_shown => k_is)
    (case k_Mirror_shown => k_is); (case a_Mirror_page => k_is); (case i_Mirror_page => k_is); (case l_Mirror_page => k_is); (case c_Mirror_page => k_is); (case k_Mirror_page => k_is)
    (case a_cell => k_is); (case l_cell => k_is); (case c_cell => k_is); (case k_cell => k_is); (case a_digits => k_is); (case l_digits => k_is)
    (case c_digits => k_is); (case k_digits => k_is); (case a_draw => k_is); (case l_draw => k_is); (case c_draw => k_is); (case k_draw => k_is)
    (case a_name => k_is); (case l_name => k_is); (case c_name => k_is); (case k_name => k_is); (case a_pages => k_is); (case l_pages => k_is)
    (case c_pages => k_is); (case k_pages => k_is); (case a_alike => k_is); (case l_alike => k_is); (case c_alike => k_is); (case k_alike => k_is)
    (case a_versions => k_is); (case l_versions => k_is); (case c_versions => k_is); (case k_versions => k_is); (case a_letters => k_is); (case l_letters => k_is)
    (case c_letters => k_is); (case k_letters => k_is); (case a_hear => k_is); (case l_hear => k_is); (case c_hear => k_is); (case k_hear => k_is)
    (case a_unlike => k_is); (case l_unlike => k_is); (case c_unlike => k_is); (case k_unlike => k_is); (case a_shown => k_is); (case l_shown => k_is)
    (case c_shown => k_is); (case k_shown => k_is); (case a_law => k_is); (case l_law => k_is); (case c_law => k_is); (case k_law => k_is)


